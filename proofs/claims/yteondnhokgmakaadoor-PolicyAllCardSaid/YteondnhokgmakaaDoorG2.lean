/- What the proof of the card in YteondnhokgmakaaDoorG4 rests on: the walks and plain laws, part 2. Its parts stand one behind the other, each with its own first line. -/
import Derived.Test.YteondnhokgmakaaDoorG1
import Derived.Laws.IdiomStrings
import Derived.Deep.RegionWith
import Derived.Test.YteondnhokgmakaaDoorProg
import Derived.Below
import Derived.Deep.Draws
import Derived.Deep.AppendLies
import Derived.Maps.AppendAt
import Derived.OwnWalk
import Derived.Laws.BytesArg
import Derived.Laws.MakeOwn
import Derived.Laws.OwnMore
import Derived.Deep.OwnRows
import Derived.Tactics
import Derived.Lib.ConvBytes
import Derived.Laws.Slices
import Derived.WalkKit
import Derived.KernelRfl
import Derived.RowKit3
import Derived.Deep.LoopGhost
import Derived.Deep.QuietTactic
import Derived.BigQuiet
import Derived.WideLaws
import Derived.Deep.DeepCutAuto
import Derived.Deep.CutBlock
import Derived.Deep.RegionHeld3
import Derived.Laws.Rows
import Derived.Lib.AppendStr
import Derived.ArgAppend
import Derived.Laws.IdiomCopy
import Derived.OrdersHeld
import Derived.Laws.BitsLemmas
import Derived.RowKit
import Derived.Test.YteondnhokgmakaaDoorWWords
import Derived.Test.YteondnhokgmakaaDoorWLast
import Derived.Test.YteondnhokgmakaaDoorWTab
import Derived.Test.YteondnhokgmakaaDoorWFour
import Derived.Test.YteondnhokgmakaaDoorWQPut
import Derived.Test.YteondnhokgmakaaDoorWApart
import Derived.Test.YteondnhokgmakaaDoorWArr
import Derived.Test.YteondnhokgmakaaDoorWZeros
import Derived.Test.YteondnhokgmakaaDoorWFoot
import Derived.Test.YteondnhokgmakaaDoorWKept
import Derived.Test.YteondnhokgmakaaDoorWShare
import Derived.Test.YteondnhokgmakaaDoorWN
import Derived.Test.YteondnhokgmakaaDoorWFootNe
import Derived.Test.YteondnhokgmakaaDoorWAt
import Derived.Test.YteondnhokgmakaaDoorWEqStruct
import Derived.Test.YteondnhokgmakaaDoorWRepsOne
import Derived.Test.YteondnhokgmakaaDoorWInv
import Derived.Test.YteondnhokgmakaaDoorWInvWords
import Derived.Test.YteondnhokgmakaaDoorWGuard
import Derived.Test.YteondnhokgmakaaDoorWNEv
import Derived.Test.YteondnhokgmakaaDoorWMore

/- host.ParseAddr, walked. -/
namespace Go.Proofs.YteondnhokgmakaaDoor.E
open Go.RowKit Go.Proofs.YteondnhokgmakaaDoorW.PrintWords Go.Proofs.YteondnhokgmakaaDoorW.PrintLast
set_option linter.unusedVariables false
set_option linter.unusedSimpArgs false

theorem setCell_id (w : World) (b j : Nat) (v : Value) (h : w.cell? ⟨b, j, none⟩ = some v) : w.setCell ⟨b, j, none⟩ v = w := by
  have hh : w.heap.modify b (fun o => match o with
      | .cells c elem frozen => .cells (c.setIfInBounds j v) elem frozen
      | o => o) = w.heap := by
    apply Array.ext_getElem?
    intro k
    rw [Array.getElem?_modify]
    split
    · rename_i e
      subst e
      unfold World.cell? at h
      cases hk : w.heap[b]? with
      | none => rfl
      | some o =>
        rw [hk] at h
        cases o with
        | cells c t fr =>
          simp only [Option.isSome_none, Bool.false_eq_true, if_false] at h
          simp only [Option.map_some, Option.some.injEq, Obj.cells.injEq, and_true]
          apply Array.ext_getElem?
          intro i
          rw [Array.getElem?_setIfInBounds]
          split
          · rename_i e; subst e
            split
            · exact h.symm
            · rename_i hb
              rw [Array.getElem?_eq_none (by omega)] at h; cases h
          · rfl
        | _ => rfl
    · rfl
  exact congrArg (fun h => ({ w with heap := h } : World)) hh
theorem boxFree {w w1 : World} {C : Array Value} {T : TypeId} (hb : Below (w.alloc (.cells C T)).heap.size (w.alloc (.cells C T)) w1) (j : Nat) : w1.frozen? ⟨w.heap.size, j, none⟩ = false :=
  (hb.frozen (p := ⟨w.heap.size, j, none⟩) (by simp)).trans (by simp)

set_option maxRecDepth 100000 in
set_option maxHeartbeats 2000000 in
theorem parseAddr_long (s : ByteArray) (hs : 253 < s.size) (hs2 : s.size ≤ 281474976710656) (w : World) :
    Calls Tryd.prog 25 #[.string s] w fun e w' => ∃ v, e = .returned (.tuple #[.agg #[.int .u8 0, .int .u8 0, .int .u8 0, .int .u8 0], v]) ∧ ErrIs w' v [(hostS, 253)] 3 ∧ Below w.heap.size w w' := by
  have HE : ∀ W, ErrIs W (.iface 34 (.int .i64 3)) [] 3 := fun W => rfl
  have HW := Lib.hid (fun W => wrong_any 253 _ [] 3 W (HE W))
  clear HE
  go_enter Tryd.func25, Tryd.ntmps25
  go_wp2_with (first | (go_at_call 38; refine (HW.out _).mono ?_; rintro e w1 ⟨v, rfl, he, hb⟩; have c0 := boxCell hb 0 (.int .u8 0) rfl; have c1 := boxCell hb 1 (.int .u8 0) rfl; have c2 := boxCell hb 2 (.int .u8 0) rfl; have c3 := boxCell hb 3 (.int .u8 0) rfl; have f0 := boxFree hb 0; have f1 := boxFree hb 1; have f2 := boxFree hb 2; have f3 := boxFree hb 3; have s0 := setCell_id _ _ _ _ c0; have s1 := setCell_id _ _ _ _ c1; have s2 := setCell_id _ _ _ _ c2; have s3 := setCell_id _ _ _ _ c3))
  refine bodyPost_ret (v := .tuple #[.agg #[.int .u8 0, .int .u8 0, .int .u8 0, .int .u8 0], v]) (by simp [results, Tryd.results25, go_sem, c0, c1, c2, c3]) rfl ⟨v, rfl, ?_, ?_⟩
  · exact he
  · exact below_then (below_alloc (Below.refl _ _) _) (below_alloc (Below.refl _ _) _).size hb

/-- What ParseAddr tells, part by part: the number of the part, where it begins, what was read. -/
def paLoop (sz : Int) : Int → Int → List ByteArray → List Int → (Int × Int) ⊕ List Int
  | _, _, [], acc => .inr acc
  | i, a, p :: r, acc => if i = 4 then .inl (a, 63) else if numOk p.data.toList 255 = false then .inl (a, 60)
    else if sz < a + p.size + 1 ∧ i < 3 then .inl (sz, 63) else paLoop sz (i + 1) (a + p.size + 1) r (acc ++ [atoiV p.data.toList])
def paRes (s : ByteArray) : (Int × Int) ⊕ List Int := if 253 < s.size then .inl (253, 3) else paLoop s.size 0 0 (parts s) []
def PAPost (r : (Int × Int) ⊕ List Int) (w : World) (e : Ending) (w' : World) : Prop :=
  Below w.heap.size w w' ∧ match r with
    | .inl (a, c) => ∃ v, e = .returned (.tuple #[.agg #[.int .u8 0, .int .u8 0, .int .u8 0, .int .u8 0], v]) ∧ ErrIs w' v [(hostS, a)] c
    | .inr l => l.length = 4 ∧ e = .returned (.tuple #[.agg #[.int .u8 (l.getD 0 0), .int .u8 (l.getD 1 0), .int .u8 (l.getD 2 0), .int .u8 (l.getD 3 0)], .nilIface])
/-- The two blocks of the call's own: the result's, the four numbers'. -/
def Mem (w wr : World) (acc : List Int) : Prop :=
  (∀ j, j < 4 → wr.cell? ⟨w.heap.size, j, none⟩ = some (.int .u8 0) ∧ wr.frozen? ⟨w.heap.size, j, none⟩ = false) ∧
  (∀ j, j < 4 → wr.cell? ⟨w.heap.size + 1, j, none⟩ = some (.int .u8 (acc.getD j 0)) ∧ wr.frozen? ⟨w.heap.size + 1, j, none⟩ = false) ∧ w.heap.size + 1 < wr.heap.size
theorem Mem.below {w wr w1 : World} {acc : List Int} (h : Mem w wr acc) (hb : Below wr.heap.size wr w1) : Mem w w1 acc := by
  obtain ⟨h0, h1, h2⟩ := h
  refine ⟨fun j hj => ?_, fun j hj => ?_, Nat.lt_of_lt_of_le h2 hb.size⟩
  · obtain ⟨a, b⟩ := h0 j hj
    exact ⟨pw_cell_below hb a, (hb.frozen (p := ⟨w.heap.size, j, none⟩) (by show w.heap.size < _; omega)).trans b⟩
  · obtain ⟨a, b⟩ := h1 j hj
    exact ⟨pw_cell_below hb a, (hb.frozen (p := ⟨w.heap.size + 1, j, none⟩) (by show w.heap.size + 1 < _; omega)).trans b⟩

theorem Mem.put {w wr : World} {acc : List Int} {k : Nat} (h : Mem w wr acc) (hk : acc.length = k) (h4 : k < 4) (v : Int) : Mem w (wr.setCell ⟨w.heap.size + 1, k, none⟩ (.int .u8 v)) (acc ++ [v]) := by
  obtain ⟨h0, h1, h2⟩ := h
  refine ⟨fun j hj => ?_, fun j hj => ?_, by simpa [World.setCell] using h2⟩
  · obtain ⟨a, b⟩ := h0 j hj
    rw [World.frozen?_setCell, World.cell?_setCell_other _ _ _ _ (by intro e; injection e with e; omega)]
    exact ⟨a, b⟩
  · obtain ⟨a, b⟩ := h1 j hj
    rw [World.frozen?_setCell]
    refine ⟨?_, b⟩
    by_cases e : j = k
    · subst e
      rw [World.cell?_setCell_same _ _ _ a]
      simp [List.getD_eq_getElem?_getD, ← hk]
    · rw [World.cell?_setCell_other _ _ _ _ (by intro e2; injection e2 with _ e2; omega), a]
      have : acc.getD j 0 = (acc ++ [v]).getD j 0 := by
        rw [List.getD_eq_getElem?_getD, List.getD_eq_getElem?_getD]
        by_cases hl : j < acc.length
        · rw [List.getElem?_append_left hl]
        · rw [List.getElem?_append_right (by omega), List.getElem?_eq_none (by omega), List.getElem?_eq_none (by simp; omega)]
      rw [this]
theorem Mem.zero {w wr : World} {acc : List Int} (h : Mem w wr acc) :
    wr.cell? ⟨w.heap.size, 0, none⟩ = some (.int .u8 0) ∧ wr.cell? ⟨w.heap.size, 1, none⟩ = some (.int .u8 0) ∧ wr.cell? ⟨w.heap.size, 2, none⟩ = some (.int .u8 0) ∧ wr.cell? ⟨w.heap.size, 3, none⟩ = some (.int .u8 0) ∧
    wr.frozen? ⟨w.heap.size, 0, none⟩ = false ∧ wr.frozen? ⟨w.heap.size, 1, none⟩ = false ∧ wr.frozen? ⟨w.heap.size, 2, none⟩ = false ∧ wr.frozen? ⟨w.heap.size, 3, none⟩ = false ∧
    wr.setCell ⟨w.heap.size, 0, none⟩ (.int .u8 0) = wr ∧ wr.setCell ⟨w.heap.size, 1, none⟩ (.int .u8 0) = wr ∧ wr.setCell ⟨w.heap.size, 2, none⟩ (.int .u8 0) = wr ∧ wr.setCell ⟨w.heap.size, 3, none⟩ (.int .u8 0) = wr := by
  have g := h.1
  exact ⟨(g 0 (by decide)).1, (g 1 (by decide)).1, (g 2 (by decide)).1, (g 3 (by decide)).1, (g 0 (by decide)).2, (g 1 (by decide)).2, (g 2 (by decide)).2, (g 3 (by decide)).2,
    setCell_id _ _ _ _ (g 0 (by decide)).1, setCell_id _ _ _ _ (g 1 (by decide)).1, setCell_id _ _ _ _ (g 2 (by decide)).1, setCell_id _ _ _ _ (g 3 (by decide)).1⟩

set_option maxRecDepth 100000 in
set_option maxHeartbeats 8000000 in
theorem parseAddr_short (s : ByteArray) (hs : s.size ≤ 253) (hsz : ∀ p ∈ parts s, p.size ≤ 253) (hsum : ∀ k, sumAt 0 ((parts s).take k) ≤ 254) (hlast : ∀ k, k < (parts s).length → ((s.size : Int) < sumAt 0 ((parts s).take (k + 1)) ↔ k + 1 = (parts s).length)) (w : World) (hS : StdW w) :
    Calls Tryd.prog 25 #[.string s] w (PAPost (paRes s) w) := by
  have HSP := Lib.hid (fun W (h : StdW W) => split_dots s (by omega) W h)
  have HS := Lib.hid hS
  have HPA := Lib.hid (show paRes s = _ by unfold paRes; rw [if_neg (show ¬ 253 < s.size by omega)])
  have HSZ := Lib.hid hsz
  have HSUM := Lib.hid hsum
  have HLAST := Lib.hid hlast
  clear hS hsz hsum hlast
  have HW := Lib.hid (fun a c W => wrong_any a _ [] c W (show ErrIs W (.iface 34 (.int .i64 c)) [] c from rfl))
  have hn0 := parts_pos s
  have hn1 := parts_le s
  go_enter Tryd.func25, Tryd.ntmps25
  go_wp2_with (go_at_call 22; refine (HSP.out _ (StdW.below HS.out (below_alloc (below_alloc (Below.refl _ _) _) _))).mono ?_; rintro e w1 ⟨rfl, hc, hlt1, hb1⟩)
  have HB1 : Hid (Below w.heap.size w w1) := Lib.hid (below_then (below_alloc (below_alloc (Below.refl _ _) _) _) (below_alloc (below_alloc (Below.refl _ _) _) _).size hb1)
  have HM : Hid (Mem w w1 []) := by
    refine Mem.below (wr := (w.alloc (.cells #[.int .u8 0, .int .u8 0, .int .u8 0, .int .u8 0] 24)).alloc (.cells #[.int .u8 0, .int .u8 0, .int .u8 0, .int .u8 0] 71)) ⟨fun j hj => ?_, fun j hj => ?_, by simp⟩ hb1
    · rw [World.cell?_alloc_lt _ _ _ (by simp), World.cell?_alloc_new]
      refine ⟨?_, by simp⟩
      match j, hj with
      | 0, _ => rfl
      | 1, _ => rfl
      | 2, _ => rfl
      | 3, _ => rfl
    · refine ⟨(World.cell?_alloc_at _ _ _ _ (by simp)).trans ?_, by simp⟩
      match j, hj with
      | 0, _ => rfl
      | 1, _ => rfl
      | 2, _ => rfl
      | 3, _ => rfl
  have HC := Lib.hid hc
  have hlt1' : w.heap.size + 1 + 1 < w1.heap.size := by simpa using hlt1
  clear hc hb1 hlt1
  generalize hl : parts s = l at HC hn0 hn1 HPA HSZ HSUM HLAST ⊢
  have HL := Lib.hid hl
  clear hl
  have HC2 : Hid (∀ j, (h : j < l.length) → w1.cell? ⟨w.heap.size + 1 + 1, j, none⟩ = some (.string l[j])) := Lib.hid (fun j hj => by have h := HC.out j hj; simp only [World.size_alloc] at h; exact h)
  clear HC
  go_loopw [5, 19] (fun a i wr => ∃ (k q : Nat) (acc : List Int), k ≤ l.length ∧ k ≤ 4 ∧ i = .int .i64 k ∧ a = .int .i64 q ∧ q ≤ 254 ∧ Hid (acc.length = k) ∧ Hid (q = sumAt 0 (l.take k)) ∧ Hid (k = l.length → k = 4) ∧ Hid (paRes s = paLoop s.size k q (l.drop k) acc) ∧ Hid (Mem w wr acc) ∧ Hid (Below w.heap.size w wr) ∧ Hid (∀ j, (h : j < l.length) → wr.cell? ⟨w.heap.size + 1 + 1, j, none⟩ = some (.string l[j]))) (fun _ i _ => l.length - (intOf i).toNat)
  case atStart => exact ⟨0, 0, [], Nat.zero_le _, by omega, rfl, rfl, by omega, rfl, rfl, Lib.hid (by omega), Lib.hid (by rw [HPA.out]; rfl), HM, HB1, HC2⟩
  case round =>
    obtain ⟨k, q, acc, hk, hk4, rfl, rfl, hq, HAL, HQ, HKL, HP, HMR, HBR, HCR⟩ := hrel
    by_cases hlt : k < l.length
    · have hk0 : (0 : Int) ≤ (k : Int) := Int.natCast_nonneg _
      have hk1 : (k : Int) < (l.length : Int) := by omega
      have hcell := HCR.out k hlt
      have hpsz : l[k].size ≤ 253 := HSZ.out _ (List.getElem_mem _)
      have hq1 := HSUM.out (k + 1)
      rw [List.take_succ_eq_append_getElem hlt, sumAt_append, ← HQ.out] at hq1
      have HLA := Lib.hid (HLAST.out k hlt)
      rw [List.take_succ_eq_append_getElem hlt, sumAt_append, ← HQ.out] at HLA
      rw [List.drop_eq_getElem_cons hlt] at HP
      have HQ1 : Hid (q + l[k].size + 1 = sumAt 0 (l.take (k + 1))) := by
        rw [List.take_succ_eq_append_getElem hlt, sumAt_append, ← HQ.out]; exact rfl
      generalize l[k] = p at hcell hpsz hq1 HLA HP HQ1
      have HN := Lib.hid (fun W h => hnumber_any p 255 (by omega) W h)
      have hBK : w.heap.size + 1 + 1 < w.heap.size + 1 + 1 + 1 := by omega
      unfold paLoop at HP
      by_cases h4 : k = 4
      · subst h4
        have HP4 : Hid (paRes s = .inl ((q : Int), 63)) := by rw [if_pos (show ((4 : Nat) : Int) = 4 from rfl)] at HP; exact HP
        clear HP
        generalize atoiV p.data.toList = v at HN
        generalize numOk p.data.toList 255 = ok at HN
        go_wp2_with (first | (go_at_call 39; refine (HN.out _ (StdW.below HS.out HBR.out)).mono ?_; rintro e w2 ⟨rfl, hb2⟩) | (go_at_call 38; refine (HW.out _ _ _).mono ?_; rintro e w3 ⟨u, rfl, he, hb3⟩; obtain ⟨c0, c1, c2, c3, f0, f1, f2, f3, s0, s1, s2, s3⟩ := ((HMR.out.below hb2).below hb3).zero))
        refine bodyPost_ret (v := .tuple #[.agg #[.int .u8 0, .int .u8 0, .int .u8 0, .int .u8 0], u]) (by simp [results, Tryd.results25, go_sem, c0, c1, c2, c3]) rfl ⟨?_, ?_⟩
        · exact below_then (below_then HBR.out HBR.out.size hb2) (below_then HBR.out HBR.out.size hb2).size hb3
        · rw [HP4.out]
          exact ⟨u, rfl, he⟩
      · have h4' : ((k : Int) == 4) = false := by rw [beq_eq_false_iff_ne]; omega
        have hk3 : (k : Int) < 4 := by omega
        rw [if_neg (show ¬ (k : Int) = 4 by omega)] at HP
        cases hok : numOk p.data.toList 255
        · have HPE : Hid (paRes s = .inl ((q : Int), 60)) := by rw [if_pos hok] at HP; exact HP
          rw [hok] at HN
          clear HP hok
          generalize atoiV p.data.toList = v at HN
          go_wp2_with (first | (go_at_call 39; refine (HN.out _ (StdW.below HS.out HBR.out)).mono ?_; rintro e w2 ⟨rfl, hb2⟩; have HB5 : Hid (Below w.heap.size w w2) := Lib.hid (below_then HBR.out HBR.out.size hb2)) | (go_at_call 38; refine (HW.out _ _ _).mono ?_; rintro e w3 ⟨u, rfl, he, hb3⟩; obtain ⟨c0, c1, c2, c3, f0, f1, f2, f3, s0, s1, s2, s3⟩ := ((HMR.out.below hb2).below hb3).zero))
          refine bodyPost_ret (v := .tuple #[.agg #[.int .u8 0, .int .u8 0, .int .u8 0, .int .u8 0], u]) (by simp [results, Tryd.results25, go_sem, c0, c1, c2, c3]) rfl ⟨?_, ?_⟩
          · exact below_then HB5.out HB5.out.size hb3
          · rw [HPE.out]
            exact ⟨u, rfl, he⟩
        · have hvb := numOk_bounds _ _ hok
          obtain ⟨hv0, hv1, -, -⟩ := hvb
          rw [if_neg (show ¬ numOk p.data.toList 255 = false by rw [hok]; simp)] at HP
          rw [hok] at HN
          clear hok
          generalize atoiV p.data.toList = v at HN HP hv0 hv1
          by_cases hlst : k + 1 = l.length
          · have hgt : (s.size : Int) < (q : Int) + ((p.size : Int) + 1) := by have := HLA.out.2 hlst; omega
            by_cases hk2 : k < 3
            · have hk2' : (k : Int) < 3 := by omega
              have HPE : Hid (paRes s = .inl ((s.size : Int), 63)) := by rw [if_pos ⟨by omega, hk2'⟩] at HP; exact HP
              clear HP
              have HLS := Lib.hid hlst
              clear hlst
              go_wp2_with (first | (go_at_call 39; refine (HN.out _ (StdW.below HS.out HBR.out)).mono ?_; rintro e w2 ⟨rfl, hb2⟩; have hm2 := HMR.out.below hb2; have HB4 : Hid (Below w.heap.size w w2) := Lib.hid (below_then HBR.out HBR.out.size hb2); have hcb := (hm2.2.1 k (by omega)).1; have hfb := (hm2.2.1 k (by omega)).2; have HM2 := Lib.hid hm2; clear hm2) | (go_at_call 38; have HB5 : Hid (Below w.heap.size w (w2.setCell ⟨w.heap.size + 1, k, none⟩ (.int .u8 v))) := Lib.hid (HB4.out.setCell (by simp) _); refine (HW.out _ _ _).mono ?_; rintro e w3 ⟨u, rfl, he, hb3⟩; obtain ⟨c0, c1, c2, c3, f0, f1, f2, f3, s0, s1, s2, s3⟩ := ((HM2.out.put HAL.out (by omega) v).below hb3).zero))
              refine bodyPost_ret (v := .tuple #[.agg #[.int .u8 0, .int .u8 0, .int .u8 0, .int .u8 0], u]) (by simp [results, Tryd.results25, go_sem, c0, c1, c2, c3]) rfl ⟨?_, ?_⟩
              · exact below_then HB5.out HB5.out.size hb3
              · rw [HPE.out]
                exact ⟨u, rfl, he⟩
            · have hk2' : ¬ (k : Int) < 3 := by omega
              have hk2'' : decide ((k : Int) < 3) = false := decide_eq_false hk2'
              rw [if_neg (by rintro ⟨_, h⟩; exact hk2' h)] at HP
              have HLS := Lib.hid hlst
              clear hlst
              go_wp2_with (first | (go_at_call 39; refine (HN.out _ (StdW.below HS.out HBR.out)).mono ?_; rintro e w2 ⟨rfl, hb2⟩; have hm2 := HMR.out.below hb2; have HB4 : Hid (Below w.heap.size w w2) := Lib.hid (below_then HBR.out HBR.out.size hb2); have hcb := (hm2.2.1 k (by omega)).1; have hfb := (hm2.2.1 k (by omega)).2; have HM2 := Lib.hid hm2; clear hm2))
              go_roundw
              case rel => exact ⟨k + 1, q + p.size + 1, acc ++ [v], by omega, by omega, by go_num, by go_num, by omega, Lib.hid (by rw [List.length_append, HAL.out]; rfl), HQ1, Lib.hid (fun _ => by omega), HP, Lib.hid (HM2.out.put HAL.out (by omega) v), Lib.hid (HB4.out.setCell (by simp) _), Lib.hid (fun j hj => (World.cell?_setCell_other _ _ _ _ (by intro e; injection e with e; omega)).trans (pw_cell_below hb2 (HCR.out j hj)))⟩
              case measure => simp [intOf]; omega
          · have hgt : ¬ (s.size : Int) < (q : Int) + ((p.size : Int) + 1) := by
              intro h
              exact hlst (HLA.out.1 (by omega))
            rw [if_neg (by rintro ⟨h, _⟩; omega)] at HP
            go_wp2_with (first | (go_at_call 39; refine (HN.out _ (StdW.below HS.out HBR.out)).mono ?_; rintro e w2 ⟨rfl, hb2⟩; have hm2 := HMR.out.below hb2; have HB4 : Hid (Below w.heap.size w w2) := Lib.hid (below_then HBR.out HBR.out.size hb2); have hcb := (hm2.2.1 k (by omega)).1; have hfb := (hm2.2.1 k (by omega)).2; have HM2 := Lib.hid hm2; clear hm2))
            go_roundw
            case rel => exact ⟨k + 1, q + p.size + 1, acc ++ [v], by omega, by omega, by go_num, by go_num, by omega, Lib.hid (by rw [List.length_append, HAL.out]; rfl), HQ1, Lib.hid (fun h => absurd h hlst), HP, Lib.hid (HM2.out.put HAL.out (by omega) v), Lib.hid (HB4.out.setCell (by simp) _), Lib.hid (fun j hj => (World.cell?_setCell_other _ _ _ _ (by intro e; injection e with e; omega)).trans (pw_cell_below hb2 (HCR.out j hj)))⟩
            case measure => simp [intOf]; omega
    · have hkl : k = l.length := by omega
      have h4 : k = 4 := HKL.out hkl
      rw [hkl, List.drop_length] at HP
      have HPE : Hid (paRes s = .inr acc) := HP
      have HA4 : Hid (acc.length = 4) := Lib.hid (HAL.out.trans h4)
      obtain ⟨c0, c1, c2, c3, f0, f1, f2, f3, -, -, -, -⟩ := HMR.out.zero
      have d0 := (HMR.out.2.1 0 (by decide)).1
      have d1 := (HMR.out.2.1 1 (by decide)).1
      have d2 := (HMR.out.2.1 2 (by decide)).1
      have d3 := (HMR.out.2.1 3 (by decide)).1
      clear HP h4 hkl
      have HEND : Hid (∀ wx, Below w.heap.size w wx → PAPost (paRes s) w (.returned (.tuple #[.agg #[.int .u8 (acc.getD 0 0), .int .u8 (acc.getD 1 0), .int .u8 (acc.getD 2 0), .int .u8 (acc.getD 3 0)], .nilIface])) wx) := Lib.hid (fun wx hb => ⟨hb, by rw [HPE.out]; exact ⟨HA4.out, rfl⟩⟩)
      generalize acc.getD 0 0 = x0 at d0 HEND
      generalize acc.getD 1 0 = x1 at d1 HEND
      generalize acc.getD 2 0 = x2 at d2 HEND
      generalize acc.getD 3 0 = x3 at d3 HEND
      go_wp2
      refine bodyPost_ret (v := .tuple #[.agg #[.int .u8 x0, .int .u8 x1, .int .u8 x2, .int .u8 x3], .nilIface]) (by simp [results, Tryd.results25, go_sem, c0, c1, c2, c3]) rfl (HEND.out _ ?_)
      exact (((HBR.out.setCell (Nat.le_refl _) _).setCell (Nat.le_refl _) _).setCell (Nat.le_refl _) _).setCell (Nat.le_refl _) _
theorem sumAt_last (l : List ByteArray) (k : Nat) (hk : k < l.length) (n : Nat) (hn : sumAt 0 l = n + 1) : ((n : Int) < sumAt 0 (l.take (k + 1)) ↔ k + 1 = l.length) := by
  constructor
  · intro h
    by_cases e : k + 1 = l.length
    · exact e
    · exfalso
      have hlt : k + 1 < l.length := by omega
      have h1 := sumAt_take l (k + 1 + 1)
      rw [List.take_succ_eq_append_getElem hlt, sumAt_append] at h1
      omega
  · intro e
    rw [e, List.take_length, hn]; omega
theorem parseAddr_any (s : ByteArray) (hs : s.size ≤ 281474976710656) (w : World) (hS : StdW w) :
    Calls Tryd.prog 25 #[.string s] w (PAPost (paRes s) w) := by
  by_cases h : s.size ≤ 253
  · refine parseAddr_short s h (fun p hp => ?_) (fun k => ?_) (fun k hk => sumAt_last _ k hk _ (sumAt_parts s)) w hS
    · have := size_mem _ p hp; rw [sumAt_parts] at this; omega
    · have := sumAt_take (parts s) k; rw [sumAt_parts] at this; omega
  · refine (parseAddr_long s (by omega) hs w).mono ?_
    rintro e w' ⟨v, rfl, he, hb⟩
    refine ⟨hb, ?_⟩
    have : paRes s = .inl (253, 3) := by unfold paRes; rw [if_pos (by omega)]
    rw [this]
    exact ⟨v, rfl, he⟩
end Go.Proofs.YteondnhokgmakaaDoor.E

/- policy.number, base.Fail, base.Lower: walked. -/
namespace Go.Proofs.YteondnhokgmakaaDoor.E
open Go.RowKit Go.Proofs.YteondnhokgmakaaDoorW.PrintWords Go.Proofs.YteondnhokgmakaaDoorW.PrintLast
set_option linter.unusedVariables false
set_option linter.unusedSimpArgs false

def numOkP (l : List UInt8) : Bool := match Lib.atoiAll l with | .ok v => (Lib.itoa v == l) && decide (0 ≤ v) | _ => false
set_option maxHeartbeats 1000000 in
theorem pnumber_ok (s : ByteArray) (v : Int) (hv0 : -9223372036854775808 ≤ v) (hv1 : v ≤ 9223372036854775807) (w : World)
    (A : Calls Tryd.prog 37 #[.string s] w fun e w' => e = .returned (.tuple #[.int .i64 v, .nilIface]) ∧ Below w.heap.size w w') (hS : StdW w) :
    Calls Tryd.prog 24 #[.string s] w fun e w' => e = .returned (.tuple #[.int .i64 v, .bool ((Lib.itoa v == s.toList) && decide (0 ≤ v))]) ∧ Below w.heap.size w w' := by
  have HA := Lib.hid A
  have HS := Lib.hid hS
  clear A hS
  cases hb : (Lib.itoa v == s.toList)
  all_goals
    go_enter Tryd.func24, Tryd.ntmps24
    go_wp2_with (first | (go_at_call 37; refine HA.out.mono ?_; rintro e w1 ⟨rfl, hb1⟩) | (go_at_call 19; refine (Itoa.calls v ⟨(Lib.itoa v).toArray⟩ _ (StdW.below HS.out hb1) (by unfold Itoa.f; rw [if_pos ⟨hv0, hv1⟩])).mono ?_; rintro e w2 ⟨rfl, hb2⟩))
    all_goals
      go_ret2
      refine ⟨?_, below_then hb1 hb1.size hb2⟩
      first | rfl | (simp; done) | (simp_all; done)
set_option maxHeartbeats 1000000 in
theorem pnumber_no (s : ByteArray) (v : Int) (w : World)
    (A : Calls Tryd.prog 37 #[.string s] w fun e w' => (∃ N, e = .returned (.tuple #[.int .i64 v, .iface 112 (.pointer (some ⟨N, 0, none⟩))])) ∧ Below w.heap.size w w') :
    Calls Tryd.prog 24 #[.string s] w fun e w' => e = .returned (.tuple #[.int .i64 v, .bool false]) ∧ Below w.heap.size w w' := by
  have HA := Lib.hid A
  clear A
  go_enter Tryd.func24, Tryd.ntmps24
  go_wp2_with (go_at_call 37; refine HA.out.mono ?_; rintro e w1 ⟨⟨N, rfl⟩, hb1⟩)
  go_ret2
  exact ⟨rfl, hb1⟩
theorem pnumber_any (s : ByteArray) (hs : s.size ≤ 281474976710656) (w : World) (hS : StdW w) :
    Calls Tryd.prog 24 #[.string s] w fun e w' => e = .returned (.tuple #[.int .i64 (atoiV s.data.toList), .bool (numOkP s.data.toList)]) ∧ Below w.heap.size w w' := by
  have A := atoi_any s hs w hS
  unfold numOkP
  rcases h : Lib.atoiAll s.data.toList with v | _ | _
  ·
    have hv : atoiV s.data.toList = v := by unfold atoiV; rw [h]
    rw [hv] at A ⊢
    obtain ⟨b0, b1⟩ := atoiAll_bounds _ _ h
    have := pnumber_ok s v b0 b1 w (A.mono fun e w' hh => by
      obtain ⟨er, rfl, he, hb⟩ := hh
      rw [h] at he
      subst he
      exact ⟨rfl, hb⟩) hS
    rw [ByteArray.toList_eq] at this
    exact this
  ·
    exact pnumber_no s _ w (A.mono fun e w' hh => by
      obtain ⟨er, rfl, he, hb⟩ := hh
      rw [h] at he
      obtain ⟨N, rfl⟩ := he
      exact ⟨⟨N, rfl⟩, hb⟩)
  ·
    exact pnumber_no s _ w (A.mono fun e w' hh => by
      obtain ⟨er, rfl, he, hb⟩ := hh
      rw [h] at he
      obtain ⟨N, rfl⟩ := he
      exact ⟨⟨N, rfl⟩, hb⟩)
theorem numOkP_iff (l : List UInt8) : numOkP l = true → Num.canon l = true ∧ atoiV l = (Num.val l : Int) ∧ Num.val l < 9223372036854775808 := by
  intro h
  unfold numOkP at h
  unfold atoiV
  rcases ha : Lib.atoiAll l with v | _ | _
  ·
    rw [ha] at h
    simp only [Bool.and_eq_true, decide_eq_true_eq, beq_iff_eq] at h
    have := Num.atoi_itoa l v ha h.2 h.1
    have := atoiAll_bounds _ _ ha
    exact ⟨by simp_all, by simp_all, by omega⟩
  · rw [ha] at h; cases h
  · rw [ha] at h; cases h
theorem numOkP_canon (l : List UInt8) (hc : Num.canon l = true) (hv : Num.val l < 9223372036854775808) : numOkP l = true ∧ atoiV l = (Num.val l : Int) := by
  unfold numOkP atoiV
  rw [Num.atoi_canon l hc hv]
  simp only [Bool.and_eq_true, decide_eq_true_eq, beq_iff_eq, and_true]
  exact ⟨Num.itoa_val l hc, by omega⟩
def pnumber.f (s : ByteArray) : Option (Int × Bool) := if s.size ≤ 281474976710656 then some (atoiV s.data.toList, numOkP s.data.toList) else none
theorem pnumber.calls (s : ByteArray) (r1 : Int) (r2 : Bool) (w : World) (hS_ : StdW w) (h : pnumber.f s = some (r1, r2)) :
    Calls Tryd.prog 24 #[.string s] w fun e w' => e = .returned (.tuple #[.int .i64 r1, .bool r2]) ∧ Below w.heap.size w w' := by
  unfold pnumber.f at h
  split at h
  · rename_i hc
    simp only [Option.some.injEq, Prod.mk.injEq] at h
    obtain ⟨rfl, rfl⟩ := h
    exact pnumber_any s hc w hS_
  · cases h
def hnumber.f (s : ByteArray) (most : Int) : Option (Int × Bool) := if s.size ≤ 281474976710656 then some (atoiV s.data.toList, numOk s.data.toList most) else none
theorem hnumber.calls (s : ByteArray) (most : Int) (r1 : Int) (r2 : Bool) (w : World) (hS_ : StdW w) (h : hnumber.f s most = some (r1, r2)) :
    Calls Tryd.prog 39 #[.string s, .int .i64 most] w fun e w' => e = .returned (.tuple #[.int .i64 r1, .bool r2]) ∧ Below w.heap.size w w' := by
  unfold hnumber.f at h
  split at h
  · rename_i hc
    simp only [Option.some.injEq, Prod.mk.injEq] at h
    obtain ⟨rfl, rfl⟩ := h
    exact hnumber_any s most hc w hS_
  · cases h
end Go.Proofs.YteondnhokgmakaaDoor.E

/- host.PrintDest, walked. -/
namespace Go.Proofs.YteondnhokgmakaaDoor.E
open Go.RowKit Go.Proofs.YteondnhokgmakaaDoorW.PrintWords Go.Proofs.YteondnhokgmakaaDoorW.PrintLast
set_option linter.unusedVariables false
set_option linter.unusedSimpArgs false

def printDestB (a b c d : Int) (n : ByteArray) (po : Int) : ByteArray := if (printB a b c d n).size = 0 ∨ po < 1 ∨ 65535 < po then ⟨#[]⟩ else printB a b c d n ++ ⟨#[58]⟩ ++ it po
set_option maxRecDepth 100000 in
set_option maxHeartbeats 4000000 in
theorem printDest_any (a b c d : Int) (n : ByteArray) (po : Int) (ha0 : 0 ≤ a) (ha1 : a ≤ 255) (hb0 : 0 ≤ b) (hb1 : b ≤ 255) (hc0 : 0 ≤ c) (hc1 : c ≤ 255) (hd0 : 0 ≤ d) (hd1 : d ≤ 255) (hs : n.size ≤ 281474976710656) (hps : (printB a b c d n).size ≤ 281474976710656) (w : World) (hS : StdW w) :
    Calls Tryd.prog 15 #[.agg #[.int .u8 a, .int .u8 b, .int .u8 c, .int .u8 d, .string n, .int .i64 po]] w fun e w' => e = .returned (.string (printDestB a b c d n po)) ∧ Below w.heap.size w w' := by
  have HP := Lib.hid (fun W h => print_any a b c d n ha0 ha1 hb0 hb1 hc0 hc1 hd0 hd1 hs W h)
  have HS := Lib.hid hS
  clear hS hs ha0 ha1 hb0 hb1 hc0 hc1 hd0 hd1
  unfold printDestB
  generalize printB a b c d n = t at HP hps
  by_cases h0 : t.size = 0
  · have h1 : t.toList.isEmpty = true := by rw [size_zero]; simpa using h0
    rw [if_pos (.inl h0)]
    go_enter Tryd.func15, Tryd.ntmps15
    go_wp2_with (go_at_call 20; refine (HP.out _ (StdW.below HS.out (below_alloc (Below.refl _ _) _))).mono ?_; rintro e w1 ⟨rfl, hb⟩)
    go_ret
    exact ⟨rfl, below_then (below_alloc (Below.refl _ _) _) (below_alloc (Below.refl _ _) _).size hb⟩
  · have h1 : t.toList.isEmpty = false := by rw [size_zero]; simpa using h0
    by_cases h2 : po < 1
    · rw [if_pos (.inr (.inl h2))]
      go_enter Tryd.func15, Tryd.ntmps15
      go_wp2_with (go_at_call 20; refine (HP.out _ (StdW.below HS.out (below_alloc (Below.refl _ _) _))).mono ?_; rintro e w1 ⟨rfl, hb⟩; have c5 := boxCell hb 5 _ rfl)
      go_ret
      exact ⟨rfl, below_then (below_alloc (Below.refl _ _) _) (below_alloc (Below.refl _ _) _).size hb⟩
    · by_cases h3 : 65535 < po
      · rw [if_pos (.inr (.inr h3))]
        have h2' : decide (po < 1) = false := decide_eq_false h2
        go_enter Tryd.func15, Tryd.ntmps15
        go_wp2_with (go_at_call 20; refine (HP.out _ (StdW.below HS.out (below_alloc (Below.refl _ _) _))).mono ?_; rintro e w1 ⟨rfl, hb⟩; have c5 := boxCell hb 5 _ rfl)
        go_ret
        exact ⟨rfl, below_then (below_alloc (Below.refl _ _) _) (below_alloc (Below.refl _ _) _).size hb⟩
      · rw [if_neg (fun h => h.elim h0 (fun h => h.elim h2 h3))]
        have h2' : decide (po < 1) = false := decide_eq_false h2
        have h3' : decide (65535 < po) = false := decide_eq_false h3
        have HI := Lib.hid (Itoa.calls po (it po))
        have HF := Lib.hid (show Itoa.f po = some (it po) by unfold Itoa.f; rw [if_pos ⟨by omega, by omega⟩]; rfl)
        have hil : (it po).size ≤ 5 := by
          show (Lib.itoa po).length ≤ 5
          unfold Lib.itoa
          rw [if_neg (by omega), Lib.decDigits_length]
          exact Num.nDigits_le 5 _ (by omega) (by decide)
        go_enter Tryd.func15, Tryd.ntmps15
        go_wp2_with (first | (go_at_call 20; refine (HP.out _ (StdW.below HS.out (below_alloc (Below.refl _ _) _))).mono ?_; rintro e w1 ⟨rfl, hb⟩; have c5 := boxCell hb 5 _ rfl) | (go_at_call 19; refine (HI.out _ (StdW.below (StdW.below HS.out (below_alloc (Below.refl _ _) _)) hb) HF.out).mono ?_; rintro e w2 ⟨rfl, hb2⟩))
        go_ret
        exact ⟨rfl, below_then (below_then (below_alloc (Below.refl _ _) _) (below_alloc (Below.refl _ _) _).size hb) (below_then (below_alloc (Below.refl _ _) _) (below_alloc (Below.refl _ _) _).size hb).size hb2⟩
theorem addrS_size (a b c d : Int) (ha0 : 0 ≤ a) (ha1 : a ≤ 255) (hb0 : 0 ≤ b) (hb1 : b ≤ 255) (hc0 : 0 ≤ c) (hc1 : c ≤ 255) (hd0 : 0 ≤ d) (hd1 : d ≤ 255) : (addrS a b c d).size ≤ 15 := by
  have la := it_len a ha0 ha1
  have lb := it_len b hb0 hb1
  have lc := it_len c hc0 hc1
  have ld := it_len d hd0 hd1
  show (Lib.join ([it a, it b, it c, it d].map (·.data.toList)) [46]).length ≤ 15
  simp only [Lib.join, List.intercalate, List.map_cons, List.map_nil, List.intersperse, List.flatten_cons, List.flatten_nil, List.length_append, it, List.append_nil]
  simp only [List.length_cons, List.length_nil]
  omega
theorem printB_size (a b c d : Int) (n : ByteArray) (ha0 : 0 ≤ a) (ha1 : a ≤ 255) (hb0 : 0 ≤ b) (hb1 : b ≤ 255) (hc0 : 0 ≤ c) (hc1 : c ≤ 255) (hd0 : 0 ≤ d) (hd1 : d ≤ 255) (hs : n.size ≤ 281474976710656) : (printB a b c d n).size ≤ 281474976710656 := by
  have := addrS_size a b c d ha0 ha1 hb0 hb1 hc0 hc1 hd0 hd1
  unfold printB
  split
  · split
    · omega
    · exact hs
  · decide
def hPrintDest.f (a b c d : Int) (n : ByteArray) (po : Int) : Option ByteArray := if (0 ≤ a ∧ a ≤ 255) ∧ (0 ≤ b ∧ b ≤ 255) ∧ (0 ≤ c ∧ c ≤ 255) ∧ (0 ≤ d ∧ d ≤ 255) ∧ n.size ≤ 281474976710656 then some (printDestB a b c d n po) else none
theorem hPrintDest.calls (a b c d : Int) (n : ByteArray) (po : Int) (r : ByteArray) (w : World) (hS_ : StdW w) (h : hPrintDest.f a b c d n po = some r) :
    Calls Tryd.prog 15 #[.agg #[.int .u8 a, .int .u8 b, .int .u8 c, .int .u8 d, .string n, .int .i64 po]] w fun e w' => e = .returned (.string r) ∧ Below w.heap.size w w' := by
  unfold hPrintDest.f at h
  split at h
  · rename_i hc
    obtain rfl := Option.some.inj h
    exact printDest_any a b c d n po hc.1.1 hc.1.2 hc.2.1.1 hc.2.1.2 hc.2.2.1.1 hc.2.2.1.2 hc.2.2.2.1.1 hc.2.2.2.1.2 hc.2.2.2.2 (printB_size a b c d n hc.1.1 hc.1.2 hc.2.1.1 hc.2.1.2 hc.2.2.1.1 hc.2.2.1.2 hc.2.2.2.1.1 hc.2.2.2.1.2 hc.2.2.2.2) w hS_
  · cases h
end Go.Proofs.YteondnhokgmakaaDoor.E

/- policy.Parse, walked over its callees' contracts. -/
namespace Go.Proofs.YteondnhokgmakaaDoor.E
open Go.RowKit Go.Proofs.YteondnhokgmakaaDoorW.PrintWords Go.Proofs.YteondnhokgmakaaDoorW.PrintLast
set_option linter.unusedVariables false
set_option linter.unusedSimpArgs false

def Blk (w : World) (R : Nat) (C : Array Value) (T : TypeId) : Prop := w.heap[R]? = some (.cells C T (0, 0))
theorem Blk.cell {w : World} {R : Nat} {C : Array Value} {T : TypeId} (h : Blk w R C T) (j : Nat) (v : Value) (hj : C[j]? = some v) : w.cell? ⟨R, j, none⟩ = some v := by
  unfold World.cell?; rw [show w.heap[R]? = _ from h]; exact hj
theorem Blk.free {w : World} {R : Nat} {C : Array Value} {T : TypeId} (h : Blk w R C T) (j : Nat) : w.frozen? ⟨R, j, none⟩ = false := by
  unfold World.frozen?; rw [show w.heap[R]? = _ from h]; simp
theorem Blk.lt {w : World} {R : Nat} {C : Array Value} {T : TypeId} (h : Blk w R C T) : R < w.heap.size := (Array.getElem?_eq_some_iff.1 h).1
theorem Blk.below {w w1 : World} {R : Nat} {C : Array Value} {T : TypeId} (h : Blk w R C T) (hb : Below w.heap.size w w1) : Blk w1 R C T := (hb.block R h.lt).trans h
theorem Blk.set {w : World} {R : Nat} {C : Array Value} {T : TypeId} (h : Blk w R C T) (j : Nat) (v : Value) : Blk (w.setCell ⟨R, j, none⟩ v) R (C.setIfInBounds j v) T := by
  unfold Blk World.setCell
  simp only [Option.isSome_none, Bool.false_eq_true, if_false]
  rw [Array.getElem?_modify, if_pos rfl, show w.heap[R]? = _ from h]; rfl
theorem Blk.other {w : World} {R : Nat} {C : Array Value} {T : TypeId} (h : Blk w R C T) (p : Addr) (hp : R ≠ p.block) (v : Value) : Blk (w.setCell p v) R C T := (Below.heap_setCell _ _ _ _ hp).trans h
theorem Blk.new (w : World) (C : Array Value) (T : TypeId) : Blk (w.alloc (.cells C T)) w.heap.size C T := heap_alloc_new w _
theorem Blk.old {w : World} {R : Nat} {C : Array Value} {T : TypeId} (h : Blk w R C T) (o : Obj) : Blk (w.alloc o) R C T := (Below.heap_alloc _ _ _ h.lt).trans h

/-- A rule's nine cells. -/
def rc (al : Bool) (a b c d bi : Int) (su : ByteArray) (lo hi : Int) : Array Value := #[.bool al, .int .u8 a, .int .u8 b, .int .u8 c, .int .u8 d, .int .i64 bi, .string su, .int .i64 lo, .int .i64 hi]
theorem Blk.nine {w : World} {R : Nat} {al : Bool} {a b c d bi : Int} {su : ByteArray} {lo hi : Int} {T : TypeId} (h : Blk w R (rc al a b c d bi su lo hi) T) :
    w.cell? ⟨R, 0, none⟩ = some (.bool al) ∧ w.cell? ⟨R, 1, none⟩ = some (.int .u8 a) ∧ w.cell? ⟨R, 2, none⟩ = some (.int .u8 b) ∧ w.cell? ⟨R, 3, none⟩ = some (.int .u8 c) ∧ w.cell? ⟨R, 4, none⟩ = some (.int .u8 d) ∧ w.cell? ⟨R, 5, none⟩ = some (.int .i64 bi) ∧ w.cell? ⟨R, 6, none⟩ = some (.string su) ∧ w.cell? ⟨R, 7, none⟩ = some (.int .i64 lo) ∧ w.cell? ⟨R, 8, none⟩ = some (.int .i64 hi) :=
  ⟨h.cell 0 _ rfl, h.cell 1 _ rfl, h.cell 2 _ rfl, h.cell 3 _ rfl, h.cell 4 _ rfl, h.cell 5 _ rfl, h.cell 6 _ rfl, h.cell 7 _ rfl, h.cell 8 _ rfl⟩
theorem Blk.frees {w : World} {R : Nat} {C : Array Value} {T : TypeId} (h : Blk w R C T) :
    w.frozen? ⟨R, 0, none⟩ = false ∧ w.frozen? ⟨R, 1, none⟩ = false ∧ w.frozen? ⟨R, 2, none⟩ = false ∧ w.frozen? ⟨R, 3, none⟩ = false ∧ w.frozen? ⟨R, 4, none⟩ = false ∧ w.frozen? ⟨R, 5, none⟩ = false ∧ w.frozen? ⟨R, 6, none⟩ = false ∧ w.frozen? ⟨R, 7, none⟩ = false ∧ w.frozen? ⟨R, 8, none⟩ = false :=
  ⟨h.free 0, h.free 1, h.free 2, h.free 3, h.free 4, h.free 5, h.free 6, h.free 7, h.free 8⟩
/-- A rule's zero stored over zero. -/
theorem Blk.ids {w : World} {R : Nat} {T : TypeId} (h : Blk w R (rc false 0 0 0 0 0 ⟨#[]⟩ 0 0) T) :
    w.setCell ⟨R, 0, none⟩ (.bool false) = w ∧ w.setCell ⟨R, 1, none⟩ (.int .u8 0) = w ∧ w.setCell ⟨R, 2, none⟩ (.int .u8 0) = w ∧ w.setCell ⟨R, 3, none⟩ (.int .u8 0) = w ∧ w.setCell ⟨R, 4, none⟩ (.int .u8 0) = w ∧ w.setCell ⟨R, 5, none⟩ (.int .i64 0) = w ∧ w.setCell ⟨R, 6, none⟩ (.string ⟨#[]⟩) = w ∧ w.setCell ⟨R, 7, none⟩ (.int .i64 0) = w ∧ w.setCell ⟨R, 8, none⟩ (.int .i64 0) = w :=
  ⟨setCell_id _ _ _ _ (h.cell 0 _ rfl), setCell_id _ _ _ _ (h.cell 1 _ rfl), setCell_id _ _ _ _ (h.cell 2 _ rfl), setCell_id _ _ _ _ (h.cell 3 _ rfl), setCell_id _ _ _ _ (h.cell 4 _ rfl), setCell_id _ _ _ _ (h.cell 5 _ rfl), setCell_id _ _ _ _ (h.cell 6 _ rfl), setCell_id _ _ _ _ (h.cell 7 _ rfl), setCell_id _ _ _ _ (h.cell 8 _ rfl)⟩

/-- A text's words between blanks. -/
def wordsS (s : ByteArray) : List ByteArray := Lib.splitB ⟨#[32]⟩ 0 (Lib.countB s ⟨#[32]⟩) s
theorem split_blanks (s : ByteArray) (hs : s.size < 4294967281) (w : World) (hS : StdW w) :
    Calls Tryd.prog 22 #[.string s, .string ⟨#[32]⟩] w fun e w' => e = .returned (.slice (some ⟨w.heap.size, 0, none⟩) (wordsS s).length (wordsS s).length) ∧ (∀ j, (h : j < (wordsS s).length) → w'.cell? ⟨w.heap.size, j, none⟩ = some (.string (wordsS s)[j])) ∧ w.heap.size < w'.heap.size ∧ Below w.heap.size w w' := by
  obtain ⟨m, hm⟩ := hS.max
  refine (Tryd.strings_Split s ⟨#[32]⟩ m w hs hm (Nat.le_refl _)).mono ?_
  rintro e w' ⟨rfl, rfl⟩
  have hl := Lib.splitB_all ⟨#[32]⟩ (Nat.le_refl _) 0 _ s rfl
  refine ⟨by unfold wordsS; rw [hl], fun j hj => ?_, by simp, (Below.refl _ _).alloc (Nat.le_refl _) _⟩
  unfold wordsS at hj ⊢
  rw [World.cell?_alloc_new, List.getElem?_toArray, List.getElem?_map, List.getElem?_eq_getElem hj]
  rfl
def allowS : ByteArray := ⟨#[97, 108, 108, 111, 119]⟩
def denyS : ByteArray := ⟨#[100, 101, 110, 121]⟩
def zeroRule : Value := .tuple #[.agg (rc false 0 0 0 0 0 ⟨#[]⟩ 0 0), .int .i64 120]

/-- What Parse answers. -/
def ppOut (fin al : Bool) (a b c d bi : Int) (su : ByteArray) (lo hi : Int) : Value := if fin then .tuple #[.agg (rc al a b c d bi su lo hi), .int .i64 0] else zeroRule

set_option maxRecDepth 100000 in
set_option maxHeartbeats 4000000 in
/-- What is too long, not of three words, or begins otherwise. -/
theorem pp_head (s : ByteArray) (hs : s.size < 4294967281) (hbad : 285 < s.size ∨ (wordsS s).length ≠ 3 ∨ ∃ h : 0 < (wordsS s).length, ((wordsS s)[0].toList == [97, 108, 108, 111, 119]) = false ∧ ((wordsS s)[0].toList == [100, 101, 110, 121]) = false) (w : World) (hS : StdW w) :
    Calls Tryd.prog 11 #[.string s] w fun e w' => e = .returned zeroRule ∧ Below w.heap.size w w' := by
  have HSP := Lib.hid (fun W (h : StdW W) => split_blanks s hs W h)
  have HS := Lib.hid hS
  clear hS
  by_cases h1 : 285 < s.size
  · have h1' : (285 : Int) < (s.size : Int) := by omega
    clear hbad
    go_enter Tryd.func11, Tryd.ntmps11
    go_wp2_with (first | (go_at_call 22; refine (HSP.out _ (StdW.below HS.out (below_alloc (Below.refl _ _) _))).mono ?_; rintro e w1 ⟨rfl, hc, hlt1, hb1⟩; have HC := Lib.hid hc; clear hc; have HZ := Lib.hid ((Blk.new w (rc false 0 0 0 0 0 ⟨#[]⟩ 0 0) _).below hb1); obtain ⟨c0, c1, c2, c3, c4, c5, c6, c7, c8⟩ := HZ.out.nine; obtain ⟨f0, f1, f2, f3, f4, f5, f6, f7, f8⟩ := HZ.out.frees; obtain ⟨i0, i1, i2, i3, i4, i5, i6, i7, i8⟩ := HZ.out.ids))
    refine bodyPost_ret (v := zeroRule) (by simp [results, Tryd.results11, go_sem, c0, c1, c2, c3, c4, c5, c6, c7, c8, zeroRule, rc]) rfl ⟨rfl, ?_⟩
    exact below_then (below_alloc (Below.refl _ _) _) (below_alloc (Below.refl _ _) _).size hb1
  · have h1' : (s.size : Int) ≤ 285 := by omega
    generalize wordsS s = l at HSP hbad
    by_cases h2 : l.length = 3
    · have hb2 : ∃ h : 0 < l.length, (l[0].toList == [97, 108, 108, 111, 119]) = false ∧ (l[0].toList == [100, 101, 110, 121]) = false := by
        rcases hbad with h | h | h
        · exact absurd h h1
        · exact absurd h2 h
        · exact h
      obtain ⟨h0, ha, hd⟩ := hb2
      have hl3 : ((l.length : Int) != 3) = false := by rw [h2]; rfl
      have hl0 : (0 : Int) < (l.length : Int) := by omega
      generalize hw0 : l[0] = w0 at ha hd
      have HW0 := Lib.hid hw0
      clear hbad h1 h2 hw0
      go_enter Tryd.func11, Tryd.ntmps11
      go_wp2_with (first | (go_at_call 22; refine (HSP.out _ (StdW.below HS.out (below_alloc (Below.refl _ _) _))).mono ?_; rintro e w1 ⟨rfl, hc, hlt1, hb1⟩; have hc0 := hc 0 h0; rw [HW0.out, World.size_alloc] at hc0; clear hc; have HZ := Lib.hid ((Blk.new w (rc false 0 0 0 0 0 ⟨#[]⟩ 0 0) _).below hb1); obtain ⟨c0, c1, c2, c3, c4, c5, c6, c7, c8⟩ := HZ.out.nine; obtain ⟨f0, f1, f2, f3, f4, f5, f6, f7, f8⟩ := HZ.out.frees; obtain ⟨i0, i1, i2, i3, i4, i5, i6, i7, i8⟩ := HZ.out.ids))
      refine bodyPost_ret (v := zeroRule) (by simp [results, Tryd.results11, go_sem, c0, c1, c2, c3, c4, c5, c6, c7, c8, zeroRule, rc]) rfl ⟨rfl, ?_⟩
      exact below_then (below_alloc (Below.refl _ _) _) (below_alloc (Below.refl _ _) _).size hb1
    · have hl3 : ((l.length : Int) != 3) = true := by rw [bne_iff_ne]; omega
      clear hbad h1
      go_enter Tryd.func11, Tryd.ntmps11
      go_wp2_with (first | (go_at_call 22; refine (HSP.out _ (StdW.below HS.out (below_alloc (Below.refl _ _) _))).mono ?_; rintro e w1 ⟨rfl, hc, hlt1, hb1⟩; clear hc; have HZ := Lib.hid ((Blk.new w (rc false 0 0 0 0 0 ⟨#[]⟩ 0 0) _).below hb1); obtain ⟨c0, c1, c2, c3, c4, c5, c6, c7, c8⟩ := HZ.out.nine; obtain ⟨f0, f1, f2, f3, f4, f5, f6, f7, f8⟩ := HZ.out.frees; obtain ⟨i0, i1, i2, i3, i4, i5, i6, i7, i8⟩ := HZ.out.ids))
      refine bodyPost_ret (v := zeroRule) (by simp [results, Tryd.results11, go_sem, c0, c1, c2, c3, c4, c5, c6, c7, c8, zeroRule, rc]) rfl ⟨rfl, ?_⟩
      exact below_then (below_alloc (Below.refl _ _) _) (below_alloc (Below.refl _ _) _).size hb1
end Go.Proofs.YteondnhokgmakaaDoor.E

/- policy.Parse, one of its ways: two 1, slash 1, address 1. Written by a program of this session's own (gen_pp.py). -/
namespace Go.Proofs.YteondnhokgmakaaDoor.E
open Go.RowKit Go.Proofs.YteondnhokgmakaaDoorW.PrintWords Go.Proofs.YteondnhokgmakaaDoorW.PrintLast
set_option linter.unusedVariables false
set_option linter.unusedSimpArgs false

set_option maxRecDepth 100000 in
set_option maxHeartbeats 40000000 in
theorem qq_1 (s w0 w1s w2s lowS highS netS nS : ByteArray) (lo : Int) (hi2 : Int) (bi : Int) (a b c d : Int) (l : List ByteArray) (hs1 : s.size ≤ 285) (hs : s.size < 4294967281)
    (HSP : ∀ W, StdW W → Calls Tryd.prog 22 #[.string s, .string ⟨#[32]⟩] W fun e w' => e = .returned (.slice (some ⟨W.heap.size, 0, none⟩) l.length l.length) ∧ (∀ j, (h : j < l.length) → w'.cell? ⟨W.heap.size, j, none⟩ = some (.string l[j])) ∧ W.heap.size < w'.heap.size ∧ Below W.heap.size W w')
    (h0 : 3 = l.length)
    (hw0 : l[0]? = some w0)
    (hw1 : l[1]? = some w1s)
    (hw2 : l[2]? = some w2s)
    (hal : (w0.toList == [97, 108, 108, 111, 119]) = false)
    (hde : false = false → (w0.toList == [100, 101, 110, 121]) = true)
    (HC2 : ∀ W, StdW W → Calls Tryd.prog 23 #[.string w2s, .string ⟨#[45]⟩] W fun e w' => e = .returned (.tuple #[.string lowS, .string highS, .bool true]) ∧ Below W.heap.size W w')
    (HN1 : ∀ W, StdW W → Calls Tryd.prog 24 #[.string lowS] W fun e w' => e = .returned (.tuple #[.int .i64 lo, .bool true]) ∧ Below W.heap.size W w')
    (HC1 : ∀ W, StdW W → Calls Tryd.prog 23 #[.string w1s, .string ⟨#[47]⟩] W fun e w' => e = .returned (.tuple #[.string netS, .string nS, .bool true]) ∧ Below W.heap.size W w')
    (HN2 : ∀ W, StdW W → Calls Tryd.prog 24 #[.string highS] W fun e w' => e = .returned (.tuple #[.int .i64 hi2, .bool true]) ∧ Below W.heap.size W w')
    (hnel : (hi2 != lo) = true)
    (HN3 : ∀ W, StdW W → Calls Tryd.prog 24 #[.string nS] W fun e w' => e = .returned (.tuple #[.int .i64 bi, .bool true]) ∧ Below W.heap.size W w')
    (HPA : ∀ W, StdW W → Calls Tryd.prog 25 #[.string netS] W fun e w' => e = .returned (.tuple #[.agg #[.int .u8 a, .int .u8 b, .int .u8 c, .int .u8 d], .nilIface]) ∧ Below W.heap.size W w')
    (HRT : ∀ W, StdW W → Calls Tryd.prog 18 #[.agg (rc false a b c d bi ⟨#[]⟩ lo hi2)] W fun e w' => e = .returned (.bool true) ∧ Below W.heap.size W w')
    (w : World) (hS : StdW w) :
    Calls Tryd.prog 11 #[.string s] w fun e w' => e = .returned (ppOut (true && ((true && true) && (true && true))) false a b c d bi ⟨#[]⟩ lo hi2) ∧ Below w.heap.size w w' := by
  have HS := Lib.hid hS
  clear hS
  have hs1' : (s.size : Int) ≤ 285 := by omega
  have hl3 : ((l.length : Int) != 3) = false := by rw [← h0]; rfl
  have hl0 : (0 : Int) < (l.length : Int) := by omega
  have hl1 : (1 : Int) < (l.length : Int) := by omega
  have hl2 : (2 : Int) < (l.length : Int) := by omega
  have XHSP := Lib.hid HSP
  have XHC2 := Lib.hid HC2
  have XHN1 := Lib.hid HN1
  have XHC1 := Lib.hid HC1
  have XHRT := Lib.hid HRT
  have Xhw0 := Lib.hid hw0
  have Xhw1 := Lib.hid hw1
  have Xhw2 := Lib.hid hw2
  have XHN2 := Lib.hid HN2
  have XHN3 := Lib.hid HN3
  have XHPA := Lib.hid HPA
  clear HSP HC2 HN1 HC1 HRT hw0 hw1 hw2 HN2 HN3 HPA
  have Xh0 := Lib.hid h0
  clear h0 hs1
  have hde' := hde rfl
  clear hde
  go_enter Tryd.func11, Tryd.ntmps11
  go_wp2_with (first | (go_at_call 22; refine (XHSP.out _ (StdW.below HS.out (below_alloc (Below.refl _ _) _))).mono ?_; rintro e x1 ⟨rfl, hc, hlt1, hb1⟩; have HB1 := Lib.hid (below_then (below_alloc (Below.refl w.heap.size w) _) (below_alloc (Below.refl w.heap.size w) _).size hb1); have hR1 : w.heap.size < x1.heap.size := (by have := hb1.size; simp at this; omega); have hRn1 : ¬ x1.heap.size = w.heap.size := (by omega); have hRn2 : ¬ w.heap.size = x1.heap.size := (by omega); have HZ1 := Lib.hid ((Blk.new w (rc false 0 0 0 0 0 ⟨#[]⟩ 0 0) _).below hb1); have HWD1 : Hid (∀ j, (h : j < l.length) → x1.cell? ⟨w.heap.size + 1, j, none⟩ = some (.string l[j])) := Lib.hid (fun j h => by have := hc j h; rw [World.size_alloc] at this; exact this); have wd0 : x1.cell? ⟨w.heap.size + 1, 0, none⟩ = some (.string w0) := (HWD1.out 0 (by have := Xh0.out; omega)).trans (by rw [(List.getElem?_eq_some_iff.1 Xhw0.out).2]); have wd2 : x1.cell? ⟨w.heap.size + 1, 2, none⟩ = some (.string w2s) := (HWD1.out 2 (by have := Xh0.out; omega)).trans (by rw [(List.getElem?_eq_some_iff.1 Xhw2.out).2]); have hwl : w.heap.size + 1 < x1.heap.size := (by simpa using hlt1); clear hc hlt1 hb1) | (go_at_call_of 23 (Value.string w2s); refine (XHC2.out _ (StdW.below HS.out (below_alloc HB1.out _))).mono ?_; rintro e x2 ⟨rfl, hb2⟩; have HB2 := Lib.hid (below_then (below_alloc HB1.out _) (below_alloc HB1.out _).size hb2); have HZ2 := Lib.hid ((HZ1.out.old _).below hb2); have HR2 : Hid (Blk x2 x1.heap.size (rc false 0 0 0 0 0 ⟨#[]⟩ 0 0) _) := Lib.hid ((Blk.new x1 (rc false 0 0 0 0 0 ⟨#[]⟩ 0 0) _).below hb2); have HWD2 : Hid (∀ j, (h : j < l.length) → x2.cell? ⟨w.heap.size + 1, j, none⟩ = some (.string l[j])) := Lib.hid (fun j h => pw_cell_below hb2 (pw_cell_below (below_alloc (Below.refl _ _) _) (HWD1.out j h))); clear hb2 wd0 wd2) | (go_at_call_of 24 (Value.string lowS); refine (XHN1.out _ (StdW.below HS.out HB2.out)).mono ?_; rintro e x3 ⟨rfl, hb3⟩; have HB3 := Lib.hid (below_then HB2.out HB2.out.size hb3); have HZ3 := Lib.hid (HZ2.out.below hb3); have HR3 := Lib.hid (HR2.out.below hb3); have HWD3 : Hid (∀ j, (h : j < l.length) → x3.cell? ⟨w.heap.size + 1, j, none⟩ = some (.string l[j])) := Lib.hid (fun j h => pw_cell_below hb3 (HWD2.out j h)); have wd1 : x3.cell? ⟨w.heap.size + 1, 1, none⟩ = some (.string w1s) := (HWD3.out 1 (by have := Xh0.out; omega)).trans (by rw [(List.getElem?_eq_some_iff.1 Xhw1.out).2]); obtain ⟨k0, k1, k2, k3, k4, k5, k6, k7, k8⟩ := HR3.out.nine; obtain ⟨f0, f1, f2, f3, f4, f5, f6, f7, f8⟩ := HR3.out.frees; clear hb3) | (go_at_call_of 24 (Value.string highS); refine (XHN2.out _ (StdW.below HS.out ((HB3.out.setCell (p := ⟨x1.heap.size, 7, none⟩) (Nat.le_of_lt hR1) (.int .i64 lo)).setCell (p := ⟨x1.heap.size, 8, none⟩) (Nat.le_of_lt hR1) (.int .i64 lo)))).mono ?_; rintro e x4 ⟨rfl, hb4⟩; have HB4 := Lib.hid (below_then ((HB3.out.setCell (p := ⟨x1.heap.size, 7, none⟩) (Nat.le_of_lt hR1) (.int .i64 lo)).setCell (p := ⟨x1.heap.size, 8, none⟩) (Nat.le_of_lt hR1) (.int .i64 lo)) ((HB3.out.setCell (p := ⟨x1.heap.size, 7, none⟩) (Nat.le_of_lt hR1) (.int .i64 lo)).setCell (p := ⟨x1.heap.size, 8, none⟩) (Nat.le_of_lt hR1) (.int .i64 lo)).size hb4); have HZ4 := Lib.hid (((HZ3.out.other ⟨x1.heap.size, 7, none⟩ hRn2 (.int .i64 lo)).other ⟨x1.heap.size, 8, none⟩ hRn2 (.int .i64 lo)).below hb4); have HR4 : Hid (Blk x4 x1.heap.size (rc false 0 0 0 0 0 ⟨#[]⟩ lo lo) _) := Lib.hid (((HR3.out.set 7 (.int .i64 lo)).set 8 (.int .i64 lo)).below hb4); have HWD4 : Hid (∀ j, (h : j < l.length) → x4.cell? ⟨w.heap.size + 1, j, none⟩ = some (.string l[j])) := Lib.hid (fun j h => pw_cell_below hb4 (by rw [World.cell?_setCell_other _ _ _ _ (by intro e; injection e with e; omega), World.cell?_setCell_other _ _ _ _ (by intro e; injection e with e; omega)]; exact HWD3.out j h)); clear wd1; have wd1 : x4.cell? ⟨w.heap.size + 1, 1, none⟩ = some (.string w1s) := (HWD4.out 1 (by have := Xh0.out; omega)).trans (by rw [(List.getElem?_eq_some_iff.1 Xhw1.out).2]); clear k0 k1 k2 k3 k4 k5 k6 k7 k8 f0 f1 f2 f3 f4 f5 f6 f7 f8; obtain ⟨k0, k1, k2, k3, k4, k5, k6, k7, k8⟩ := HR4.out.nine; obtain ⟨f0, f1, f2, f3, f4, f5, f6, f7, f8⟩ := HR4.out.frees; clear hb4) | (go_at_call_of 23 (Value.string w1s); refine (XHC1.out _ (StdW.below HS.out (HB4.out.setCell (p := ⟨x1.heap.size, 8, none⟩) (Nat.le_of_lt hR1) (.int .i64 hi2)))).mono ?_; rintro e x5 ⟨rfl, hb5⟩; have HB5 := Lib.hid (below_then (HB4.out.setCell (p := ⟨x1.heap.size, 8, none⟩) (Nat.le_of_lt hR1) (.int .i64 hi2)) (HB4.out.setCell (p := ⟨x1.heap.size, 8, none⟩) (Nat.le_of_lt hR1) (.int .i64 hi2)).size hb5); have HZ5 := Lib.hid ((HZ4.out.other ⟨x1.heap.size, 8, none⟩ hRn2 (.int .i64 hi2)).below hb5); have HR5 : Hid (Blk x5 x1.heap.size (rc false 0 0 0 0 0 ⟨#[]⟩ lo hi2) _) := Lib.hid ((HR4.out.set 8 (.int .i64 hi2)).below hb5); have HWD5 : Hid (∀ j, (h : j < l.length) → x5.cell? ⟨w.heap.size + 1, j, none⟩ = some (.string l[j])) := Lib.hid (fun j h => pw_cell_below hb5 (by rw [World.cell?_setCell_other _ _ _ _ (by intro e; injection e with e; omega)]; exact HWD4.out j h)); clear wd1; have wd1 : x5.cell? ⟨w.heap.size + 1, 1, none⟩ = some (.string w1s) := (HWD5.out 1 (by have := Xh0.out; omega)).trans (by rw [(List.getElem?_eq_some_iff.1 Xhw1.out).2]); clear k0 k1 k2 k3 k4 k5 k6 k7 k8 f0 f1 f2 f3 f4 f5 f6 f7 f8; obtain ⟨k0, k1, k2, k3, k4, k5, k6, k7, k8⟩ := HR5.out.nine; obtain ⟨f0, f1, f2, f3, f4, f5, f6, f7, f8⟩ := HR5.out.frees; clear hb5) | (go_at_call_of 24 (Value.string nS); refine (XHN3.out _ (StdW.below HS.out HB5.out)).mono ?_; rintro e x6 ⟨rfl, hb6⟩; have HB6 := Lib.hid (below_then HB5.out HB5.out.size hb6); have HZ6 := Lib.hid (HZ5.out.below hb6); have HR6 := Lib.hid (HR5.out.below hb6); clear k0 k1 k2 k3 k4 k5 k6 k7 k8 f0 f1 f2 f3 f4 f5 f6 f7 f8; obtain ⟨k0, k1, k2, k3, k4, k5, k6, k7, k8⟩ := HR6.out.nine; obtain ⟨f0, f1, f2, f3, f4, f5, f6, f7, f8⟩ := HR6.out.frees; clear hb6) | (go_at_call 25; refine (XHPA.out _ (StdW.below HS.out (HB6.out.setCell (p := ⟨x1.heap.size, 5, none⟩) (Nat.le_of_lt hR1) (.int .i64 bi)))).mono ?_; rintro e x7 ⟨rfl, hb7⟩; have HB7 := Lib.hid (below_then (HB6.out.setCell (p := ⟨x1.heap.size, 5, none⟩) (Nat.le_of_lt hR1) (.int .i64 bi)) (HB6.out.setCell (p := ⟨x1.heap.size, 5, none⟩) (Nat.le_of_lt hR1) (.int .i64 bi)).size hb7); have HZ7 := Lib.hid ((HZ6.out.other ⟨x1.heap.size, 5, none⟩ hRn2 (.int .i64 bi)).below hb7); have HR7 : Hid (Blk x7 x1.heap.size (rc false 0 0 0 0 bi ⟨#[]⟩ lo hi2) _) := Lib.hid ((HR6.out.set 5 (.int .i64 bi)).below hb7); clear k0 k1 k2 k3 k4 k5 k6 k7 k8 f0 f1 f2 f3 f4 f5 f6 f7 f8; obtain ⟨k0, k1, k2, k3, k4, k5, k6, k7, k8⟩ := HR7.out.nine; obtain ⟨f0, f1, f2, f3, f4, f5, f6, f7, f8⟩ := HR7.out.frees; obtain ⟨z0, z1, z2, z3, z4, z5, z6, z7, z8⟩ := HZ7.out.nine; obtain ⟨g0, g1, g2, g3, g4, g5, g6, g7, g8⟩ := HZ7.out.frees; clear hb7) | (go_at_call 18; refine (XHRT.out _ (StdW.below HS.out ((((HB7.out.setCell (p := ⟨x1.heap.size, 1, none⟩) (Nat.le_of_lt hR1) (.int .u8 a)).setCell (p := ⟨x1.heap.size, 2, none⟩) (Nat.le_of_lt hR1) (.int .u8 b)).setCell (p := ⟨x1.heap.size, 3, none⟩) (Nat.le_of_lt hR1) (.int .u8 c)).setCell (p := ⟨x1.heap.size, 4, none⟩) (Nat.le_of_lt hR1) (.int .u8 d)))).mono ?_; rintro e x8 ⟨rfl, hb8⟩; have HB8 := Lib.hid (below_then ((((HB7.out.setCell (p := ⟨x1.heap.size, 1, none⟩) (Nat.le_of_lt hR1) (.int .u8 a)).setCell (p := ⟨x1.heap.size, 2, none⟩) (Nat.le_of_lt hR1) (.int .u8 b)).setCell (p := ⟨x1.heap.size, 3, none⟩) (Nat.le_of_lt hR1) (.int .u8 c)).setCell (p := ⟨x1.heap.size, 4, none⟩) (Nat.le_of_lt hR1) (.int .u8 d)) ((((HB7.out.setCell (p := ⟨x1.heap.size, 1, none⟩) (Nat.le_of_lt hR1) (.int .u8 a)).setCell (p := ⟨x1.heap.size, 2, none⟩) (Nat.le_of_lt hR1) (.int .u8 b)).setCell (p := ⟨x1.heap.size, 3, none⟩) (Nat.le_of_lt hR1) (.int .u8 c)).setCell (p := ⟨x1.heap.size, 4, none⟩) (Nat.le_of_lt hR1) (.int .u8 d)).size hb8); have HZ8 := Lib.hid (((((HZ7.out.other ⟨x1.heap.size, 1, none⟩ hRn2 (.int .u8 a)).other ⟨x1.heap.size, 2, none⟩ hRn2 (.int .u8 b)).other ⟨x1.heap.size, 3, none⟩ hRn2 (.int .u8 c)).other ⟨x1.heap.size, 4, none⟩ hRn2 (.int .u8 d)).below hb8); have HR8 : Hid (Blk x8 x1.heap.size (rc false a b c d bi ⟨#[]⟩ lo hi2) _) := Lib.hid (((((HR7.out.set 1 (.int .u8 a)).set 2 (.int .u8 b)).set 3 (.int .u8 c)).set 4 (.int .u8 d)).below hb8); clear k0 k1 k2 k3 k4 k5 k6 k7 k8 f0 f1 f2 f3 f4 f5 f6 f7 f8; clear z0 z1 z2 z3 z4 z5 z6 z7 z8 g0 g1 g2 g3 g4 g5 g6 g7 g8; obtain ⟨k0, k1, k2, k3, k4, k5, k6, k7, k8⟩ := HR8.out.nine; obtain ⟨f0, f1, f2, f3, f4, f5, f6, f7, f8⟩ := HR8.out.frees; obtain ⟨z0, z1, z2, z3, z4, z5, z6, z7, z8⟩ := HZ8.out.nine; obtain ⟨g0, g1, g2, g3, g4, g5, g6, g7, g8⟩ := HZ8.out.frees; clear hb8))
  all_goals
    refine bodyPost_ret (v := .tuple #[.agg (rc false a b c d bi ⟨#[]⟩ lo hi2), .int .i64 0]) (by simp [results, Tryd.results11, go_sem, rc, z0, z1, z2, z3, z4, z5, z6, z7, z8, hRn1, hRn2]) rfl ⟨rfl, ?_⟩
    repeat (refine Below.setCell ?_ (by first | exact Nat.le_refl _ | exact Nat.le_of_lt hR1) _)
    exact HB8.out
end Go.Proofs.YteondnhokgmakaaDoor.E

/- policy.Parse, one of its ways: two 0, slash 0, address 1. Written by a program of this session's own (gen_pp.py). -/
namespace Go.Proofs.YteondnhokgmakaaDoor.E
open Go.RowKit Go.Proofs.YteondnhokgmakaaDoorW.PrintWords Go.Proofs.YteondnhokgmakaaDoorW.PrintLast
set_option linter.unusedVariables false
set_option linter.unusedSimpArgs false

set_option maxRecDepth 100000 in
set_option maxHeartbeats 40000000 in
theorem qq_2 (s w0 w1s w2s lowS highS netS nS : ByteArray) (lo : Int) (l : List ByteArray) (hs1 : s.size ≤ 285) (hs : s.size < 4294967281)
    (HSP : ∀ W, StdW W → Calls Tryd.prog 22 #[.string s, .string ⟨#[32]⟩] W fun e w' => e = .returned (.slice (some ⟨W.heap.size, 0, none⟩) l.length l.length) ∧ (∀ j, (h : j < l.length) → w'.cell? ⟨W.heap.size, j, none⟩ = some (.string l[j])) ∧ W.heap.size < w'.heap.size ∧ Below W.heap.size W w')
    (h0 : 3 = l.length)
    (hw0 : l[0]? = some w0)
    (hw1 : l[1]? = some w1s)
    (hw2 : l[2]? = some w2s)
    (hal : (w0.toList == [97, 108, 108, 111, 119]) = true)
    (hde : true = false → (w0.toList == [100, 101, 110, 121]) = true)
    (HC2 : ∀ W, StdW W → Calls Tryd.prog 23 #[.string w2s, .string ⟨#[45]⟩] W fun e w' => e = .returned (.tuple #[.string lowS, .string highS, .bool false]) ∧ Below W.heap.size W w')
    (HN1 : ∀ W, StdW W → Calls Tryd.prog 24 #[.string lowS] W fun e w' => e = .returned (.tuple #[.int .i64 lo, .bool true]) ∧ Below W.heap.size W w')
    (HC1 : ∀ W, StdW W → Calls Tryd.prog 23 #[.string w1s, .string ⟨#[47]⟩] W fun e w' => e = .returned (.tuple #[.string netS, .string nS, .bool false]) ∧ Below W.heap.size W w')
    (hok : w1s.toList.isEmpty = !true)
    (HRT : ∀ W, StdW W → Calls Tryd.prog 18 #[.agg (rc true 0 0 0 0 0 w1s lo lo)] W fun e w' => e = .returned (.bool true) ∧ Below W.heap.size W w')
    (w : World) (hS : StdW w) :
    Calls Tryd.prog 11 #[.string s] w fun e w' => e = .returned (ppOut (true && (true && (true && true))) true 0 0 0 0 0 w1s lo lo) ∧ Below w.heap.size w w' := by
  have HS := Lib.hid hS
  clear hS
  have hs1' : (s.size : Int) ≤ 285 := by omega
  have hl3 : ((l.length : Int) != 3) = false := by rw [← h0]; rfl
  have hl0 : (0 : Int) < (l.length : Int) := by omega
  have hl1 : (1 : Int) < (l.length : Int) := by omega
  have hl2 : (2 : Int) < (l.length : Int) := by omega
  have XHSP := Lib.hid HSP
  have XHC2 := Lib.hid HC2
  have XHN1 := Lib.hid HN1
  have XHC1 := Lib.hid HC1
  have XHRT := Lib.hid HRT
  have Xhw0 := Lib.hid hw0
  have Xhw1 := Lib.hid hw1
  have Xhw2 := Lib.hid hw2
  clear HSP HC2 HN1 HC1 HRT hw0 hw1 hw2
  have Xh0 := Lib.hid h0
  clear h0 hs1
  clear hde
  go_enter Tryd.func11, Tryd.ntmps11
  go_wp2_with (first | (go_at_call 22; refine (XHSP.out _ (StdW.below HS.out (below_alloc (Below.refl _ _) _))).mono ?_; rintro e x1 ⟨rfl, hc, hlt1, hb1⟩; have HB1 := Lib.hid (below_then (below_alloc (Below.refl w.heap.size w) _) (below_alloc (Below.refl w.heap.size w) _).size hb1); have hR1 : w.heap.size < x1.heap.size := (by have := hb1.size; simp at this; omega); have hRn1 : ¬ x1.heap.size = w.heap.size := (by omega); have hRn2 : ¬ w.heap.size = x1.heap.size := (by omega); have HZ1 := Lib.hid ((Blk.new w (rc false 0 0 0 0 0 ⟨#[]⟩ 0 0) _).below hb1); have HWD1 : Hid (∀ j, (h : j < l.length) → x1.cell? ⟨w.heap.size + 1, j, none⟩ = some (.string l[j])) := Lib.hid (fun j h => by have := hc j h; rw [World.size_alloc] at this; exact this); have wd0 : x1.cell? ⟨w.heap.size + 1, 0, none⟩ = some (.string w0) := (HWD1.out 0 (by have := Xh0.out; omega)).trans (by rw [(List.getElem?_eq_some_iff.1 Xhw0.out).2]); have wd2 : x1.cell? ⟨w.heap.size + 1, 2, none⟩ = some (.string w2s) := (HWD1.out 2 (by have := Xh0.out; omega)).trans (by rw [(List.getElem?_eq_some_iff.1 Xhw2.out).2]); have hwl : w.heap.size + 1 < x1.heap.size := (by simpa using hlt1); clear hc hlt1 hb1) | (go_at_call_of 23 (Value.string w2s); refine (XHC2.out _ (StdW.below HS.out (below_alloc HB1.out _))).mono ?_; rintro e x2 ⟨rfl, hb2⟩; have HB2 := Lib.hid (below_then (below_alloc HB1.out _) (below_alloc HB1.out _).size hb2); have HZ2 := Lib.hid ((HZ1.out.old _).below hb2); have HR2 : Hid (Blk x2 x1.heap.size (rc true 0 0 0 0 0 ⟨#[]⟩ 0 0) _) := Lib.hid ((Blk.new x1 (rc true 0 0 0 0 0 ⟨#[]⟩ 0 0) _).below hb2); have HWD2 : Hid (∀ j, (h : j < l.length) → x2.cell? ⟨w.heap.size + 1, j, none⟩ = some (.string l[j])) := Lib.hid (fun j h => pw_cell_below hb2 (pw_cell_below (below_alloc (Below.refl _ _) _) (HWD1.out j h))); clear hb2 wd0 wd2) | (go_at_call_of 24 (Value.string lowS); refine (XHN1.out _ (StdW.below HS.out HB2.out)).mono ?_; rintro e x3 ⟨rfl, hb3⟩; have HB3 := Lib.hid (below_then HB2.out HB2.out.size hb3); have HZ3 := Lib.hid (HZ2.out.below hb3); have HR3 := Lib.hid (HR2.out.below hb3); have HWD3 : Hid (∀ j, (h : j < l.length) → x3.cell? ⟨w.heap.size + 1, j, none⟩ = some (.string l[j])) := Lib.hid (fun j h => pw_cell_below hb3 (HWD2.out j h)); have wd1 : x3.cell? ⟨w.heap.size + 1, 1, none⟩ = some (.string w1s) := (HWD3.out 1 (by have := Xh0.out; omega)).trans (by rw [(List.getElem?_eq_some_iff.1 Xhw1.out).2]); obtain ⟨k0, k1, k2, k3, k4, k5, k6, k7, k8⟩ := HR3.out.nine; obtain ⟨f0, f1, f2, f3, f4, f5, f6, f7, f8⟩ := HR3.out.frees; clear hb3) | (go_at_call_of 23 (Value.string w1s); refine (XHC1.out _ (StdW.below HS.out ((HB3.out.setCell (p := ⟨x1.heap.size, 7, none⟩) (Nat.le_of_lt hR1) (.int .i64 lo)).setCell (p := ⟨x1.heap.size, 8, none⟩) (Nat.le_of_lt hR1) (.int .i64 lo)))).mono ?_; rintro e x5 ⟨rfl, hb5⟩; have HB5 := Lib.hid (below_then ((HB3.out.setCell (p := ⟨x1.heap.size, 7, none⟩) (Nat.le_of_lt hR1) (.int .i64 lo)).setCell (p := ⟨x1.heap.size, 8, none⟩) (Nat.le_of_lt hR1) (.int .i64 lo)) ((HB3.out.setCell (p := ⟨x1.heap.size, 7, none⟩) (Nat.le_of_lt hR1) (.int .i64 lo)).setCell (p := ⟨x1.heap.size, 8, none⟩) (Nat.le_of_lt hR1) (.int .i64 lo)).size hb5); have HZ5 := Lib.hid (((HZ3.out.other ⟨x1.heap.size, 7, none⟩ hRn2 (.int .i64 lo)).other ⟨x1.heap.size, 8, none⟩ hRn2 (.int .i64 lo)).below hb5); have HR5 : Hid (Blk x5 x1.heap.size (rc true 0 0 0 0 0 ⟨#[]⟩ lo lo) _) := Lib.hid (((HR3.out.set 7 (.int .i64 lo)).set 8 (.int .i64 lo)).below hb5); have HWD5 : Hid (∀ j, (h : j < l.length) → x5.cell? ⟨w.heap.size + 1, j, none⟩ = some (.string l[j])) := Lib.hid (fun j h => pw_cell_below hb5 (by rw [World.cell?_setCell_other _ _ _ _ (by intro e; injection e with e; omega), World.cell?_setCell_other _ _ _ _ (by intro e; injection e with e; omega)]; exact HWD3.out j h)); clear wd1; have wd1 : x5.cell? ⟨w.heap.size + 1, 1, none⟩ = some (.string w1s) := (HWD5.out 1 (by have := Xh0.out; omega)).trans (by rw [(List.getElem?_eq_some_iff.1 Xhw1.out).2]); clear k0 k1 k2 k3 k4 k5 k6 k7 k8 f0 f1 f2 f3 f4 f5 f6 f7 f8; obtain ⟨k0, k1, k2, k3, k4, k5, k6, k7, k8⟩ := HR5.out.nine; obtain ⟨f0, f1, f2, f3, f4, f5, f6, f7, f8⟩ := HR5.out.frees; obtain ⟨z0, z1, z2, z3, z4, z5, z6, z7, z8⟩ := HZ5.out.nine; obtain ⟨g0, g1, g2, g3, g4, g5, g6, g7, g8⟩ := HZ5.out.frees; clear hb5) | (go_at_call 18; refine (XHRT.out _ (StdW.below HS.out (HB5.out.setCell (p := ⟨x1.heap.size, 6, none⟩) (Nat.le_of_lt hR1) (.string w1s)))).mono ?_; rintro e x8 ⟨rfl, hb8⟩; have HB8 := Lib.hid (below_then (HB5.out.setCell (p := ⟨x1.heap.size, 6, none⟩) (Nat.le_of_lt hR1) (.string w1s)) (HB5.out.setCell (p := ⟨x1.heap.size, 6, none⟩) (Nat.le_of_lt hR1) (.string w1s)).size hb8); have HZ8 := Lib.hid ((HZ5.out.other ⟨x1.heap.size, 6, none⟩ hRn2 (.string w1s)).below hb8); have HR8 : Hid (Blk x8 x1.heap.size (rc true 0 0 0 0 0 w1s lo lo) _) := Lib.hid ((HR5.out.set 6 (.string w1s)).below hb8); clear k0 k1 k2 k3 k4 k5 k6 k7 k8 f0 f1 f2 f3 f4 f5 f6 f7 f8; clear z0 z1 z2 z3 z4 z5 z6 z7 z8 g0 g1 g2 g3 g4 g5 g6 g7 g8; obtain ⟨k0, k1, k2, k3, k4, k5, k6, k7, k8⟩ := HR8.out.nine; obtain ⟨f0, f1, f2, f3, f4, f5, f6, f7, f8⟩ := HR8.out.frees; obtain ⟨z0, z1, z2, z3, z4, z5, z6, z7, z8⟩ := HZ8.out.nine; obtain ⟨g0, g1, g2, g3, g4, g5, g6, g7, g8⟩ := HZ8.out.frees; clear hb8))
  all_goals
    refine bodyPost_ret (v := .tuple #[.agg (rc true 0 0 0 0 0 w1s lo lo), .int .i64 0]) (by simp [results, Tryd.results11, go_sem, rc, z0, z1, z2, z3, z4, z5, z6, z7, z8, hRn1, hRn2]) rfl ⟨rfl, ?_⟩
    repeat (refine Below.setCell ?_ (by first | exact Nat.le_refl _ | exact Nat.le_of_lt hR1) _)
    exact HB8.out
end Go.Proofs.YteondnhokgmakaaDoor.E

/- policy.Parse, one of its ways: two 0, slash 1, address 1. Written by a program of this session's own (gen_pp.py). -/
namespace Go.Proofs.YteondnhokgmakaaDoor.E
open Go.RowKit Go.Proofs.YteondnhokgmakaaDoorW.PrintWords Go.Proofs.YteondnhokgmakaaDoorW.PrintLast
set_option linter.unusedVariables false
set_option linter.unusedSimpArgs false

set_option maxRecDepth 100000 in
set_option maxHeartbeats 40000000 in
theorem qq_3 (s w0 w1s w2s lowS highS netS nS : ByteArray) (lo : Int) (bi : Int) (a b c d : Int) (l : List ByteArray) (hs1 : s.size ≤ 285) (hs : s.size < 4294967281)
    (HSP : ∀ W, StdW W → Calls Tryd.prog 22 #[.string s, .string ⟨#[32]⟩] W fun e w' => e = .returned (.slice (some ⟨W.heap.size, 0, none⟩) l.length l.length) ∧ (∀ j, (h : j < l.length) → w'.cell? ⟨W.heap.size, j, none⟩ = some (.string l[j])) ∧ W.heap.size < w'.heap.size ∧ Below W.heap.size W w')
    (h0 : 3 = l.length)
    (hw0 : l[0]? = some w0)
    (hw1 : l[1]? = some w1s)
    (hw2 : l[2]? = some w2s)
    (hal : (w0.toList == [97, 108, 108, 111, 119]) = true)
    (hde : true = false → (w0.toList == [100, 101, 110, 121]) = true)
    (HC2 : ∀ W, StdW W → Calls Tryd.prog 23 #[.string w2s, .string ⟨#[45]⟩] W fun e w' => e = .returned (.tuple #[.string lowS, .string highS, .bool false]) ∧ Below W.heap.size W w')
    (HN1 : ∀ W, StdW W → Calls Tryd.prog 24 #[.string lowS] W fun e w' => e = .returned (.tuple #[.int .i64 lo, .bool true]) ∧ Below W.heap.size W w')
    (HC1 : ∀ W, StdW W → Calls Tryd.prog 23 #[.string w1s, .string ⟨#[47]⟩] W fun e w' => e = .returned (.tuple #[.string netS, .string nS, .bool true]) ∧ Below W.heap.size W w')
    (HN3 : ∀ W, StdW W → Calls Tryd.prog 24 #[.string nS] W fun e w' => e = .returned (.tuple #[.int .i64 bi, .bool true]) ∧ Below W.heap.size W w')
    (HPA : ∀ W, StdW W → Calls Tryd.prog 25 #[.string netS] W fun e w' => e = .returned (.tuple #[.agg #[.int .u8 a, .int .u8 b, .int .u8 c, .int .u8 d], .nilIface]) ∧ Below W.heap.size W w')
    (HRT : ∀ W, StdW W → Calls Tryd.prog 18 #[.agg (rc true a b c d bi ⟨#[]⟩ lo lo)] W fun e w' => e = .returned (.bool false) ∧ Below W.heap.size W w')
    (w : World) (hS : StdW w) :
    Calls Tryd.prog 11 #[.string s] w fun e w' => e = .returned (ppOut (true && (true && (true && false))) true a b c d bi ⟨#[]⟩ lo lo) ∧ Below w.heap.size w w' := by
  have HS := Lib.hid hS
  clear hS
  have hs1' : (s.size : Int) ≤ 285 := by omega
  have hl3 : ((l.length : Int) != 3) = false := by rw [← h0]; rfl
  have hl0 : (0 : Int) < (l.length : Int) := by omega
  have hl1 : (1 : Int) < (l.length : Int) := by omega
  have hl2 : (2 : Int) < (l.length : Int) := by omega
  have XHSP := Lib.hid HSP
  have XHC2 := Lib.hid HC2
  have XHN1 := Lib.hid HN1
  have XHC1 := Lib.hid HC1
  have XHRT := Lib.hid HRT
  have Xhw0 := Lib.hid hw0
  have Xhw1 := Lib.hid hw1
  have Xhw2 := Lib.hid hw2
  have XHN3 := Lib.hid HN3
  have XHPA := Lib.hid HPA
  clear HSP HC2 HN1 HC1 HRT hw0 hw1 hw2 HN3 HPA
  have Xh0 := Lib.hid h0
  clear h0 hs1
  clear hde
  go_enter Tryd.func11, Tryd.ntmps11
  go_wp2_with (first | (go_at_call 22; refine (XHSP.out _ (StdW.below HS.out (below_alloc (Below.refl _ _) _))).mono ?_; rintro e x1 ⟨rfl, hc, hlt1, hb1⟩; have HB1 := Lib.hid (below_then (below_alloc (Below.refl w.heap.size w) _) (below_alloc (Below.refl w.heap.size w) _).size hb1); have hR1 : w.heap.size < x1.heap.size := (by have := hb1.size; simp at this; omega); have hRn1 : ¬ x1.heap.size = w.heap.size := (by omega); have hRn2 : ¬ w.heap.size = x1.heap.size := (by omega); have HZ1 := Lib.hid ((Blk.new w (rc false 0 0 0 0 0 ⟨#[]⟩ 0 0) _).below hb1); have HWD1 : Hid (∀ j, (h : j < l.length) → x1.cell? ⟨w.heap.size + 1, j, none⟩ = some (.string l[j])) := Lib.hid (fun j h => by have := hc j h; rw [World.size_alloc] at this; exact this); have wd0 : x1.cell? ⟨w.heap.size + 1, 0, none⟩ = some (.string w0) := (HWD1.out 0 (by have := Xh0.out; omega)).trans (by rw [(List.getElem?_eq_some_iff.1 Xhw0.out).2]); have wd2 : x1.cell? ⟨w.heap.size + 1, 2, none⟩ = some (.string w2s) := (HWD1.out 2 (by have := Xh0.out; omega)).trans (by rw [(List.getElem?_eq_some_iff.1 Xhw2.out).2]); have hwl : w.heap.size + 1 < x1.heap.size := (by simpa using hlt1); clear hc hlt1 hb1) | (go_at_call_of 23 (Value.string w2s); refine (XHC2.out _ (StdW.below HS.out (below_alloc HB1.out _))).mono ?_; rintro e x2 ⟨rfl, hb2⟩; have HB2 := Lib.hid (below_then (below_alloc HB1.out _) (below_alloc HB1.out _).size hb2); have HZ2 := Lib.hid ((HZ1.out.old _).below hb2); have HR2 : Hid (Blk x2 x1.heap.size (rc true 0 0 0 0 0 ⟨#[]⟩ 0 0) _) := Lib.hid ((Blk.new x1 (rc true 0 0 0 0 0 ⟨#[]⟩ 0 0) _).below hb2); have HWD2 : Hid (∀ j, (h : j < l.length) → x2.cell? ⟨w.heap.size + 1, j, none⟩ = some (.string l[j])) := Lib.hid (fun j h => pw_cell_below hb2 (pw_cell_below (below_alloc (Below.refl _ _) _) (HWD1.out j h))); clear hb2 wd0 wd2) | (go_at_call_of 24 (Value.string lowS); refine (XHN1.out _ (StdW.below HS.out HB2.out)).mono ?_; rintro e x3 ⟨rfl, hb3⟩; have HB3 := Lib.hid (below_then HB2.out HB2.out.size hb3); have HZ3 := Lib.hid (HZ2.out.below hb3); have HR3 := Lib.hid (HR2.out.below hb3); have HWD3 : Hid (∀ j, (h : j < l.length) → x3.cell? ⟨w.heap.size + 1, j, none⟩ = some (.string l[j])) := Lib.hid (fun j h => pw_cell_below hb3 (HWD2.out j h)); have wd1 : x3.cell? ⟨w.heap.size + 1, 1, none⟩ = some (.string w1s) := (HWD3.out 1 (by have := Xh0.out; omega)).trans (by rw [(List.getElem?_eq_some_iff.1 Xhw1.out).2]); obtain ⟨k0, k1, k2, k3, k4, k5, k6, k7, k8⟩ := HR3.out.nine; obtain ⟨f0, f1, f2, f3, f4, f5, f6, f7, f8⟩ := HR3.out.frees; clear hb3) | (go_at_call_of 23 (Value.string w1s); refine (XHC1.out _ (StdW.below HS.out ((HB3.out.setCell (p := ⟨x1.heap.size, 7, none⟩) (Nat.le_of_lt hR1) (.int .i64 lo)).setCell (p := ⟨x1.heap.size, 8, none⟩) (Nat.le_of_lt hR1) (.int .i64 lo)))).mono ?_; rintro e x5 ⟨rfl, hb5⟩; have HB5 := Lib.hid (below_then ((HB3.out.setCell (p := ⟨x1.heap.size, 7, none⟩) (Nat.le_of_lt hR1) (.int .i64 lo)).setCell (p := ⟨x1.heap.size, 8, none⟩) (Nat.le_of_lt hR1) (.int .i64 lo)) ((HB3.out.setCell (p := ⟨x1.heap.size, 7, none⟩) (Nat.le_of_lt hR1) (.int .i64 lo)).setCell (p := ⟨x1.heap.size, 8, none⟩) (Nat.le_of_lt hR1) (.int .i64 lo)).size hb5); have HZ5 := Lib.hid (((HZ3.out.other ⟨x1.heap.size, 7, none⟩ hRn2 (.int .i64 lo)).other ⟨x1.heap.size, 8, none⟩ hRn2 (.int .i64 lo)).below hb5); have HR5 : Hid (Blk x5 x1.heap.size (rc true 0 0 0 0 0 ⟨#[]⟩ lo lo) _) := Lib.hid (((HR3.out.set 7 (.int .i64 lo)).set 8 (.int .i64 lo)).below hb5); have HWD5 : Hid (∀ j, (h : j < l.length) → x5.cell? ⟨w.heap.size + 1, j, none⟩ = some (.string l[j])) := Lib.hid (fun j h => pw_cell_below hb5 (by rw [World.cell?_setCell_other _ _ _ _ (by intro e; injection e with e; omega), World.cell?_setCell_other _ _ _ _ (by intro e; injection e with e; omega)]; exact HWD3.out j h)); clear wd1; have wd1 : x5.cell? ⟨w.heap.size + 1, 1, none⟩ = some (.string w1s) := (HWD5.out 1 (by have := Xh0.out; omega)).trans (by rw [(List.getElem?_eq_some_iff.1 Xhw1.out).2]); clear k0 k1 k2 k3 k4 k5 k6 k7 k8 f0 f1 f2 f3 f4 f5 f6 f7 f8; obtain ⟨k0, k1, k2, k3, k4, k5, k6, k7, k8⟩ := HR5.out.nine; obtain ⟨f0, f1, f2, f3, f4, f5, f6, f7, f8⟩ := HR5.out.frees; clear hb5) | (go_at_call_of 24 (Value.string nS); refine (XHN3.out _ (StdW.below HS.out HB5.out)).mono ?_; rintro e x6 ⟨rfl, hb6⟩; have HB6 := Lib.hid (below_then HB5.out HB5.out.size hb6); have HZ6 := Lib.hid (HZ5.out.below hb6); have HR6 := Lib.hid (HR5.out.below hb6); clear k0 k1 k2 k3 k4 k5 k6 k7 k8 f0 f1 f2 f3 f4 f5 f6 f7 f8; obtain ⟨k0, k1, k2, k3, k4, k5, k6, k7, k8⟩ := HR6.out.nine; obtain ⟨f0, f1, f2, f3, f4, f5, f6, f7, f8⟩ := HR6.out.frees; clear hb6) | (go_at_call 25; refine (XHPA.out _ (StdW.below HS.out (HB6.out.setCell (p := ⟨x1.heap.size, 5, none⟩) (Nat.le_of_lt hR1) (.int .i64 bi)))).mono ?_; rintro e x7 ⟨rfl, hb7⟩; have HB7 := Lib.hid (below_then (HB6.out.setCell (p := ⟨x1.heap.size, 5, none⟩) (Nat.le_of_lt hR1) (.int .i64 bi)) (HB6.out.setCell (p := ⟨x1.heap.size, 5, none⟩) (Nat.le_of_lt hR1) (.int .i64 bi)).size hb7); have HZ7 := Lib.hid ((HZ6.out.other ⟨x1.heap.size, 5, none⟩ hRn2 (.int .i64 bi)).below hb7); have HR7 : Hid (Blk x7 x1.heap.size (rc true 0 0 0 0 bi ⟨#[]⟩ lo lo) _) := Lib.hid ((HR6.out.set 5 (.int .i64 bi)).below hb7); clear k0 k1 k2 k3 k4 k5 k6 k7 k8 f0 f1 f2 f3 f4 f5 f6 f7 f8; obtain ⟨k0, k1, k2, k3, k4, k5, k6, k7, k8⟩ := HR7.out.nine; obtain ⟨f0, f1, f2, f3, f4, f5, f6, f7, f8⟩ := HR7.out.frees; obtain ⟨z0, z1, z2, z3, z4, z5, z6, z7, z8⟩ := HZ7.out.nine; obtain ⟨g0, g1, g2, g3, g4, g5, g6, g7, g8⟩ := HZ7.out.frees; clear hb7) | (go_at_call 18; refine (XHRT.out _ (StdW.below HS.out ((((HB7.out.setCell (p := ⟨x1.heap.size, 1, none⟩) (Nat.le_of_lt hR1) (.int .u8 a)).setCell (p := ⟨x1.heap.size, 2, none⟩) (Nat.le_of_lt hR1) (.int .u8 b)).setCell (p := ⟨x1.heap.size, 3, none⟩) (Nat.le_of_lt hR1) (.int .u8 c)).setCell (p := ⟨x1.heap.size, 4, none⟩) (Nat.le_of_lt hR1) (.int .u8 d)))).mono ?_; rintro e x8 ⟨rfl, hb8⟩; have HB8 := Lib.hid (below_then ((((HB7.out.setCell (p := ⟨x1.heap.size, 1, none⟩) (Nat.le_of_lt hR1) (.int .u8 a)).setCell (p := ⟨x1.heap.size, 2, none⟩) (Nat.le_of_lt hR1) (.int .u8 b)).setCell (p := ⟨x1.heap.size, 3, none⟩) (Nat.le_of_lt hR1) (.int .u8 c)).setCell (p := ⟨x1.heap.size, 4, none⟩) (Nat.le_of_lt hR1) (.int .u8 d)) ((((HB7.out.setCell (p := ⟨x1.heap.size, 1, none⟩) (Nat.le_of_lt hR1) (.int .u8 a)).setCell (p := ⟨x1.heap.size, 2, none⟩) (Nat.le_of_lt hR1) (.int .u8 b)).setCell (p := ⟨x1.heap.size, 3, none⟩) (Nat.le_of_lt hR1) (.int .u8 c)).setCell (p := ⟨x1.heap.size, 4, none⟩) (Nat.le_of_lt hR1) (.int .u8 d)).size hb8); have HZ8 := Lib.hid (((((HZ7.out.other ⟨x1.heap.size, 1, none⟩ hRn2 (.int .u8 a)).other ⟨x1.heap.size, 2, none⟩ hRn2 (.int .u8 b)).other ⟨x1.heap.size, 3, none⟩ hRn2 (.int .u8 c)).other ⟨x1.heap.size, 4, none⟩ hRn2 (.int .u8 d)).below hb8); have HR8 : Hid (Blk x8 x1.heap.size (rc true a b c d bi ⟨#[]⟩ lo lo) _) := Lib.hid (((((HR7.out.set 1 (.int .u8 a)).set 2 (.int .u8 b)).set 3 (.int .u8 c)).set 4 (.int .u8 d)).below hb8); clear k0 k1 k2 k3 k4 k5 k6 k7 k8 f0 f1 f2 f3 f4 f5 f6 f7 f8; clear z0 z1 z2 z3 z4 z5 z6 z7 z8 g0 g1 g2 g3 g4 g5 g6 g7 g8; obtain ⟨k0, k1, k2, k3, k4, k5, k6, k7, k8⟩ := HR8.out.nine; obtain ⟨f0, f1, f2, f3, f4, f5, f6, f7, f8⟩ := HR8.out.frees; obtain ⟨z0, z1, z2, z3, z4, z5, z6, z7, z8⟩ := HZ8.out.nine; obtain ⟨g0, g1, g2, g3, g4, g5, g6, g7, g8⟩ := HZ8.out.frees; clear hb8))
  all_goals
    refine bodyPost_ret (v := zeroRule) (by simp [results, Tryd.results11, go_sem, zeroRule, rc, z0, z1, z2, z3, z4, z5, z6, z7, z8, hRn1, hRn2]) rfl ⟨rfl, ?_⟩
    repeat (refine Below.setCell ?_ (by first | exact Nat.le_refl _ | exact Nat.le_of_lt hR1) _)
    exact HB8.out
end Go.Proofs.YteondnhokgmakaaDoor.E

/- Printed by a program of this session's own (xprint.py) out of the translation. Lean checks it. -/
namespace Go.Proofs.YteondnhokgmakaaDoor.XC
open Go.RowKit Go.Proofs.YteondnhokgmakaaDoorW.PrintWords Go.Proofs.YteondnhokgmakaaDoorW.PrintLast Go.Proofs.YteondnhokgmakaaDoorW.PrintMore
attribute [local go_sem] max2_int min2_int max_two min_two max_three min_three max_four min_four   -- for this text's walks alone
set_option linter.unusedVariables false
set_option linter.unusedSimpArgs false



def errW : Option Int → Value
  | none => .nilIface
  | some c => .iface 0 (.int .i64 c)
theorem errW_none : errW none = .nilIface := rfl
theorem errW_some (c : Int) : errW (some c) = .iface 0 (.int .i64 c) := rfl

-- the values' own types
/-! #### struct type 24 -/
structure S24 where
  f0 : Int
  f1 : Int
  f2 : Int
  f3 : Int
def z24 : S24 := ⟨(0 : Int), (0 : Int), (0 : Int), (0 : Int)⟩
def k24 : Kd S24 := Kd.iso (Kd.pair (Kd.int .u8) (Kd.pair (Kd.int .u8) (Kd.pair (Kd.int .u8) (Kd.int .u8)))) (fun x : S24 => (x.f0, x.f1, x.f2, x.f3))
theorem k24_open {w : World} {x : S24} {cs : List Value} (h : k24.K w x cs) : cs = [.int .u8 x.f0, .int .u8 x.f1, .int .u8 x.f2, .int .u8 x.f3] := by
  obtain ⟨_, _, rfl, rfl, ⟨_, _, rfl, rfl, ⟨_, _, rfl, rfl, rfl⟩⟩⟩ := h
  exact rfl
theorem k24_openM {w : World} {base : Nat} {ok : Nat → Prop} {x : S24} {cs : List Value} (h : k24.M w base ok x cs) : cs = [.int .u8 x.f0, .int .u8 x.f1, .int .u8 x.f2, .int .u8 x.f3] := by
  obtain ⟨_, _, rfl, rfl, ⟨_, _, rfl, rfl, ⟨_, _, rfl, rfl, rfl⟩⟩⟩ := h
  exact rfl
theorem k24_mk (w : World) (x : S24)  : k24.K w x [.int .u8 x.f0, .int .u8 x.f1, .int .u8 x.f2, .int .u8 x.f3] := ⟨[.int .u8 x.f0], [.int .u8 x.f1, .int .u8 x.f2, .int .u8 x.f3], rfl, rfl, ⟨[.int .u8 x.f1], [.int .u8 x.f2, .int .u8 x.f3], rfl, rfl, ⟨[.int .u8 x.f2], [.int .u8 x.f3], rfl, rfl, rfl⟩⟩⟩
theorem k24_mkM (w : World) (base : Nat) (ok : Nat → Prop) (x : S24)  : k24.M w base ok x [.int .u8 x.f0, .int .u8 x.f1, .int .u8 x.f2, .int .u8 x.f3] := ⟨[.int .u8 x.f0], [.int .u8 x.f1, .int .u8 x.f2, .int .u8 x.f3], rfl, rfl, ⟨[.int .u8 x.f1], [.int .u8 x.f2, .int .u8 x.f3], rfl, rfl, ⟨[.int .u8 x.f2], [.int .u8 x.f3], rfl, rfl, rfl⟩⟩⟩
def rd_T24 (xs : List S24) (i : Int) : S24 := xs.getD i.toNat z24
theorem at_T24 {w : World} {A : Option Addr} {n : Nat} {xs : List S24} (h : Kd.C k24 w A n xs) (i : Int) (h0 : 0 ≤ i) (h1 : i < n) : ∃ ad , A = some ad ∧ w.cell? (ad.add (i.toNat * 4)) = some (.int .u8 (rd_T24 xs i).f0) ∧ w.cell? ⟨(ad.add (i.toNat * 4)).block, (ad.add (i.toNat * 4)).off + 1, none⟩ = some (.int .u8 (rd_T24 xs i).f1) ∧ w.cell? ⟨(ad.add (i.toNat * 4)).block, (ad.add (i.toNat * 4)).off + 2, none⟩ = some (.int .u8 (rd_T24 xs i).f2) ∧ w.cell? ⟨(ad.add (i.toNat * 4)).block, (ad.add (i.toNat * 4)).off + 3, none⟩ = some (.int .u8 (rd_T24 xs i).f3) := by
  obtain ⟨ad, c, e, _, hK, hc0⟩ := Kd.C_get h z24 i h0 h1
  have hc : ∀ j u, c[j]? = some u → w.cell? (ad.add (i.toNat * 4 + j)) = some u := hc0
  obtain rfl := k24_open hK
  exact ⟨ad, e, hc 0 _ rfl, by rw [← add_field _ _ 1 (by omega)]; exact hc 1 _ rfl, by rw [← add_field _ _ 2 (by omega)]; exact hc 2 _ rfl, by rw [← add_field _ _ 3 (by omega)]; exact hc 3 _ rfl⟩

/-! #### struct type 26 -/
structure S26 where
  f0 : S24
  f1 : ByteArray
def z26 : S26 := ⟨z24, (⟨#[]⟩ : ByteArray)⟩
def k26 : Kd S26 := Kd.iso (Kd.pair k24 Kd.string) (fun x : S26 => (x.f0, x.f1))
theorem k26_open {w : World} {x : S26} {cs : List Value} (h : k26.K w x cs) : cs = [.int .u8 x.f0.f0, .int .u8 x.f0.f1, .int .u8 x.f0.f2, .int .u8 x.f0.f3, .string x.f1] := by
  obtain ⟨_, _, rfl, s0, rfl⟩ := h
  obtain rfl := k24_open s0
  exact rfl
theorem k26_openM {w : World} {base : Nat} {ok : Nat → Prop} {x : S26} {cs : List Value} (h : k26.M w base ok x cs) : cs = [.int .u8 x.f0.f0, .int .u8 x.f0.f1, .int .u8 x.f0.f2, .int .u8 x.f0.f3, .string x.f1] := by
  obtain ⟨_, _, rfl, s0, rfl⟩ := h
  obtain rfl := k24_openM s0
  exact rfl
theorem k26_mk (w : World) (x : S26)  : k26.K w x [.int .u8 x.f0.f0, .int .u8 x.f0.f1, .int .u8 x.f0.f2, .int .u8 x.f0.f3, .string x.f1] := ⟨[.int .u8 x.f0.f0, .int .u8 x.f0.f1, .int .u8 x.f0.f2, .int .u8 x.f0.f3], [.string x.f1], rfl, (k24_mk w x.f0 ), rfl⟩
theorem k26_mkM (w : World) (base : Nat) (ok : Nat → Prop) (x : S26)  : k26.M w base ok x [.int .u8 x.f0.f0, .int .u8 x.f0.f1, .int .u8 x.f0.f2, .int .u8 x.f0.f3, .string x.f1] := ⟨[.int .u8 x.f0.f0, .int .u8 x.f0.f1, .int .u8 x.f0.f2, .int .u8 x.f0.f3], [.string x.f1], rfl, (k24_mkM w base ok x.f0 ), rfl⟩
def rd_T26 (xs : List S26) (i : Int) : S26 := xs.getD i.toNat z26
theorem at_T26 {w : World} {A : Option Addr} {n : Nat} {xs : List S26} (h : Kd.C k26 w A n xs) (i : Int) (h0 : 0 ≤ i) (h1 : i < n) : ∃ ad , A = some ad ∧ w.cell? (ad.add (i.toNat * 5)) = some (.int .u8 (rd_T26 xs i).f0.f0) ∧ w.cell? ⟨(ad.add (i.toNat * 5)).block, (ad.add (i.toNat * 5)).off + 1, none⟩ = some (.int .u8 (rd_T26 xs i).f0.f1) ∧ w.cell? ⟨(ad.add (i.toNat * 5)).block, (ad.add (i.toNat * 5)).off + 2, none⟩ = some (.int .u8 (rd_T26 xs i).f0.f2) ∧ w.cell? ⟨(ad.add (i.toNat * 5)).block, (ad.add (i.toNat * 5)).off + 3, none⟩ = some (.int .u8 (rd_T26 xs i).f0.f3) ∧ w.cell? ⟨(ad.add (i.toNat * 5)).block, (ad.add (i.toNat * 5)).off + 4, none⟩ = some (.string (rd_T26 xs i).f1) := by
  obtain ⟨ad, c, e, _, hK, hc0⟩ := Kd.C_get h z26 i h0 h1
  have hc : ∀ j u, c[j]? = some u → w.cell? (ad.add (i.toNat * 5 + j)) = some u := hc0
  obtain rfl := k26_open hK
  exact ⟨ad, e, hc 0 _ rfl, by rw [← add_field _ _ 1 (by omega)]; exact hc 1 _ rfl, by rw [← add_field _ _ 2 (by omega)]; exact hc 2 _ rfl, by rw [← add_field _ _ 3 (by omega)]; exact hc 3 _ rfl, by rw [← add_field _ _ 4 (by omega)]; exact hc 4 _ rfl⟩

/-! #### struct type 33 -/
structure S33 where
  f0 : Bool
  f1 : S24
  f2 : Int
  f3 : ByteArray
  f4 : Int
  f5 : Int
def z33 : S33 := ⟨false, z24, (0 : Int), (⟨#[]⟩ : ByteArray), (0 : Int), (0 : Int)⟩
def k33 : Kd S33 := Kd.iso (Kd.pair Kd.bool (Kd.pair k24 (Kd.pair (Kd.int .i64) (Kd.pair Kd.string (Kd.pair (Kd.int .i64) (Kd.int .i64)))))) (fun x : S33 => (x.f0, x.f1, x.f2, x.f3, x.f4, x.f5))
theorem k33_open {w : World} {x : S33} {cs : List Value} (h : k33.K w x cs) : cs = [.bool x.f0, .int .u8 x.f1.f0, .int .u8 x.f1.f1, .int .u8 x.f1.f2, .int .u8 x.f1.f3, .int .i64 x.f2, .string x.f3, .int .i64 x.f4, .int .i64 x.f5] := by
  obtain ⟨_, _, rfl, rfl, ⟨_, _, rfl, s1, ⟨_, _, rfl, rfl, ⟨_, _, rfl, rfl, ⟨_, _, rfl, rfl, rfl⟩⟩⟩⟩⟩ := h
  obtain rfl := k24_open s1
  exact rfl
theorem k33_openM {w : World} {base : Nat} {ok : Nat → Prop} {x : S33} {cs : List Value} (h : k33.M w base ok x cs) : cs = [.bool x.f0, .int .u8 x.f1.f0, .int .u8 x.f1.f1, .int .u8 x.f1.f2, .int .u8 x.f1.f3, .int .i64 x.f2, .string x.f3, .int .i64 x.f4, .int .i64 x.f5] := by
  obtain ⟨_, _, rfl, rfl, ⟨_, _, rfl, s1, ⟨_, _, rfl, rfl, ⟨_, _, rfl, rfl, ⟨_, _, rfl, rfl, rfl⟩⟩⟩⟩⟩ := h
  obtain rfl := k24_openM s1
  exact rfl
theorem k33_mk (w : World) (x : S33)  : k33.K w x [.bool x.f0, .int .u8 x.f1.f0, .int .u8 x.f1.f1, .int .u8 x.f1.f2, .int .u8 x.f1.f3, .int .i64 x.f2, .string x.f3, .int .i64 x.f4, .int .i64 x.f5] := ⟨[.bool x.f0], [.int .u8 x.f1.f0, .int .u8 x.f1.f1, .int .u8 x.f1.f2, .int .u8 x.f1.f3, .int .i64 x.f2, .string x.f3, .int .i64 x.f4, .int .i64 x.f5], rfl, rfl, ⟨[.int .u8 x.f1.f0, .int .u8 x.f1.f1, .int .u8 x.f1.f2, .int .u8 x.f1.f3], [.int .i64 x.f2, .string x.f3, .int .i64 x.f4, .int .i64 x.f5], rfl, (k24_mk w x.f1 ), ⟨[.int .i64 x.f2], [.string x.f3, .int .i64 x.f4, .int .i64 x.f5], rfl, rfl, ⟨[.string x.f3], [.int .i64 x.f4, .int .i64 x.f5], rfl, rfl, ⟨[.int .i64 x.f4], [.int .i64 x.f5], rfl, rfl, rfl⟩⟩⟩⟩⟩
theorem k33_mkM (w : World) (base : Nat) (ok : Nat → Prop) (x : S33)  : k33.M w base ok x [.bool x.f0, .int .u8 x.f1.f0, .int .u8 x.f1.f1, .int .u8 x.f1.f2, .int .u8 x.f1.f3, .int .i64 x.f2, .string x.f3, .int .i64 x.f4, .int .i64 x.f5] := ⟨[.bool x.f0], [.int .u8 x.f1.f0, .int .u8 x.f1.f1, .int .u8 x.f1.f2, .int .u8 x.f1.f3, .int .i64 x.f2, .string x.f3, .int .i64 x.f4, .int .i64 x.f5], rfl, rfl, ⟨[.int .u8 x.f1.f0, .int .u8 x.f1.f1, .int .u8 x.f1.f2, .int .u8 x.f1.f3], [.int .i64 x.f2, .string x.f3, .int .i64 x.f4, .int .i64 x.f5], rfl, (k24_mkM w base ok x.f1 ), ⟨[.int .i64 x.f2], [.string x.f3, .int .i64 x.f4, .int .i64 x.f5], rfl, rfl, ⟨[.string x.f3], [.int .i64 x.f4, .int .i64 x.f5], rfl, rfl, ⟨[.int .i64 x.f4], [.int .i64 x.f5], rfl, rfl, rfl⟩⟩⟩⟩⟩
def rd_T33 (xs : List S33) (i : Int) : S33 := xs.getD i.toNat z33
theorem at_T33 {w : World} {A : Option Addr} {n : Nat} {xs : List S33} (h : Kd.C k33 w A n xs) (i : Int) (h0 : 0 ≤ i) (h1 : i < n) : ∃ ad , A = some ad ∧ w.cell? (ad.add (i.toNat * 9)) = some (.bool (rd_T33 xs i).f0) ∧ w.cell? ⟨(ad.add (i.toNat * 9)).block, (ad.add (i.toNat * 9)).off + 1, none⟩ = some (.int .u8 (rd_T33 xs i).f1.f0) ∧ w.cell? ⟨(ad.add (i.toNat * 9)).block, (ad.add (i.toNat * 9)).off + 2, none⟩ = some (.int .u8 (rd_T33 xs i).f1.f1) ∧ w.cell? ⟨(ad.add (i.toNat * 9)).block, (ad.add (i.toNat * 9)).off + 3, none⟩ = some (.int .u8 (rd_T33 xs i).f1.f2) ∧ w.cell? ⟨(ad.add (i.toNat * 9)).block, (ad.add (i.toNat * 9)).off + 4, none⟩ = some (.int .u8 (rd_T33 xs i).f1.f3) ∧ w.cell? ⟨(ad.add (i.toNat * 9)).block, (ad.add (i.toNat * 9)).off + 5, none⟩ = some (.int .i64 (rd_T33 xs i).f2) ∧ w.cell? ⟨(ad.add (i.toNat * 9)).block, (ad.add (i.toNat * 9)).off + 6, none⟩ = some (.string (rd_T33 xs i).f3) ∧ w.cell? ⟨(ad.add (i.toNat * 9)).block, (ad.add (i.toNat * 9)).off + 7, none⟩ = some (.int .i64 (rd_T33 xs i).f4) ∧ w.cell? ⟨(ad.add (i.toNat * 9)).block, (ad.add (i.toNat * 9)).off + 8, none⟩ = some (.int .i64 (rd_T33 xs i).f5) := by
  obtain ⟨ad, c, e, _, hK, hc0⟩ := Kd.C_get h z33 i h0 h1
  have hc : ∀ j u, c[j]? = some u → w.cell? (ad.add (i.toNat * 9 + j)) = some u := hc0
  obtain rfl := k33_open hK
  exact ⟨ad, e, hc 0 _ rfl, by rw [← add_field _ _ 1 (by omega)]; exact hc 1 _ rfl, by rw [← add_field _ _ 2 (by omega)]; exact hc 2 _ rfl, by rw [← add_field _ _ 3 (by omega)]; exact hc 3 _ rfl, by rw [← add_field _ _ 4 (by omega)]; exact hc 4 _ rfl, by rw [← add_field _ _ 5 (by omega)]; exact hc 5 _ rfl, by rw [← add_field _ _ 6 (by omega)]; exact hc 6 _ rfl, by rw [← add_field _ _ 7 (by omega)]; exact hc 7 _ rfl, by rw [← add_field _ _ 8 (by omega)]; exact hc 8 _ rfl⟩

end Go.Proofs.YteondnhokgmakaaDoor.XC

/- Printed by a program of this session's own (xprint.py) out of the translation. Lean checks it. -/
namespace Go.Proofs.YteondnhokgmakaaDoor.XC
open Go.RowKit Go.Proofs.YteondnhokgmakaaDoorW.PrintWords Go.Proofs.YteondnhokgmakaaDoorW.PrintLast Go.Proofs.YteondnhokgmakaaDoorW.PrintMore
attribute [local go_sem] max2_int min2_int max_two min_two max_three min_three max_four min_four   -- for this text's walks alone
set_option linter.unusedVariables false
set_option linter.unusedSimpArgs false

theorem eqA24 (d : Nat) (w : World) (x0 y0 : Int) (x1 y1 : Int) (x2 y2 : Int) (x3 y3 : Int) :
    (Op.equalIn (d + 2) 24 (.agg #[.int .u8 x0, .int .u8 x1, .int .u8 x2, .int .u8 x3]) (.agg #[.int .u8 y0, .int .u8 y1, .int .u8 y2, .int .u8 y3])).run Tryd.prog w = .ok (x0 == y0 && (x1 == y1 && (x2 == y2 && (x3 == y3)))) w := by
  refine eqA_of Tryd.underlying24 (by kernel_rfl) ?_
  refine eqf_cons (by rfl) (by go_simp; rfl) (by go_simp; rfl) (by go_simp) ?_
  refine eqf_cons (by rfl) (by go_simp; rfl) (by go_simp; rfl) (by go_simp) ?_
  refine eqf_cons (by rfl) (by go_simp; rfl) (by go_simp; rfl) (by go_simp) ?_
  exact eqf_last (by rfl) (by go_simp; rfl) (by go_simp; rfl) (by go_simp)
end Go.Proofs.YteondnhokgmakaaDoor.XC

/- Printed by a program of this session's own (xprint.py) out of the translation. Lean checks it. -/
namespace Go.Proofs.YteondnhokgmakaaDoor.XC
open Go.RowKit Go.Proofs.YteondnhokgmakaaDoorW.PrintWords Go.Proofs.YteondnhokgmakaaDoorW.PrintLast Go.Proofs.YteondnhokgmakaaDoorW.PrintMore
attribute [local go_sem] max2_int min2_int max_two min_two max_three min_three max_four min_four   -- for this text's walks alone
set_option linter.unusedVariables false
set_option linter.unusedSimpArgs false

attribute [local go_sem high] eqA24
-- given: function 29 (host_Check)

/-! ### policy_bits: function 30 -/
def policy_bits.f (a0_0 : Int) (a0_1 : Int) (a0_2 : Int) (a0_3 : Int) : Option (Int) := some (Go.bits .or .u32 (Go.bits .or .u32 (Go.bits .or .u32 ((((a0_0) % 4294967296) * 16777216) % 4294967296) ((((a0_1) % 4294967296) * 65536) % 4294967296)) ((((a0_2) % 4294967296) * 256) % 4294967296)) ((a0_3) % 4294967296))
set_option maxHeartbeats 8000000 in
set_option maxRecDepth 100000 in
theorem policy_bits.calls (a0_0 : Int) (a0_1 : Int) (a0_2 : Int) (a0_3 : Int) (r : Int) (w : World) (h : policy_bits.f a0_0 a0_1 a0_2 a0_3 = some r) :
    Calls Tryd.prog 30 #[.agg #[.int .u8 a0_0, .int .u8 a0_1, .int .u8 a0_2, .int .u8 a0_3]] w fun e w' => e = .returned (.int .u32 r) ∧ Below w.heap.size w w' := by
  have hu24 := Tryd.underlying24
  have HB := Aside0.mk (Below.refl w.heap.size w)
  have H : (some (Go.bits .or .u32 (Go.bits .or .u32 (Go.bits .or .u32 ((((a0_0) % 4294967296) * 16777216) % 4294967296) ((((a0_1) % 4294967296) * 65536) % 4294967296)) ((((a0_2) % 4294967296) * 256) % 4294967296)) ((a0_3) % 4294967296))) = some r := h
  clear h
  obtain rfl := Option.some.inj H
  go_enter Tryd.func30, Tryd.ntmps30
  go_wp2_with (first | ((with_reducible refine gate_dst (N := 1) rfl ?_); refine box_event ?hg (N := 1) ?hd (cs := #[.int .u8 a0_0, .int .u8 a0_1, .int .u8 a0_2, .int .u8 a0_3]) (t := 24) ?hr ?_; (case hd => rfl); (case hg => rfl); (case hr => first | (go_simp; done) | (go_simp; rfl)); intro gb101 hg w2 hbox hb; have n0_ := Aside0.mk (below_step (by repeat (first | (with_reducible first | exact HB.out | apply below_alloc | apply pw_below_drewN | apply below_drew1) | exact HB.out)) hb); have n1_ := Aside0.mk (hbox); have n2_ := Aside0.mk ((by rw [hg]; exact (below_size (by repeat (first | (with_reducible first | exact HB.out | apply below_alloc | apply pw_below_drewN | apply below_drew1) | exact HB.out))) : w.heap.size ≤ gb101)); have n3_ := Aside0.mk ((by rw [hg]; exact (below_size (by repeat (first | (with_reducible first | exact HB.out | apply below_alloc | apply pw_below_drewN | apply below_drew1) | exact HB.out))) : w.heap.size ≤ gb101)); clear HB; have HB := n0_; have BK101 := n1_; have GW101 := n2_; have GE101 := n3_; clear n0_ n1_ n2_ n3_; clear hb hbox hg; have hcz3_0 : w2.cell? ⟨gb101, 0, none⟩ = some (.int .u8 a0_0) := (blk_cell BK101.out 0).trans rfl; have hcz3_1 : w2.cell? ⟨gb101, 1, none⟩ = some (.int .u8 a0_1) := (blk_cell BK101.out 1).trans rfl; have hcz3_2 : w2.cell? ⟨gb101, 2, none⟩ = some (.int .u8 a0_2) := (blk_cell BK101.out 2).trans rfl; have hcz3_3 : w2.cell? ⟨gb101, 3, none⟩ = some (.int .u8 a0_3) := (blk_cell BK101.out 3).trans rfl; have hfz3_0 := blk_frozen BK101.out 0; have hfz3_1 := blk_frozen BK101.out 1; have hfz3_2 := blk_frozen BK101.out 2; have hfz3_3 := blk_frozen BK101.out 3))
  go_ret
  exact ⟨by first | rfl | (simp [errW_none, errW_some] <;> rfl) | (simp [*, errW_none, errW_some] <;> rfl), by repeat (first | (with_reducible first | exact HB.out | apply below_alloc | apply pw_below_drewN | apply below_drew1 | refine below_set ?_ GE101.out) | exact HB.out)⟩

/-! ### policy_right: function 18 -/
def policy_right.j0 : Nat → Bool → Bool → Int → Int → Int → Int → Int → ByteArray → Int → Int → Option (Bool)
  | 0, _, _, _, _, _, _, _, _, _, _ => none
  | k + 1, x3, x103000, x103001, x103002, x103003, x103004, x103005, x103006, x103007, x103008 => if x3 = true then (some false) else (if x103006.toList = ([] : List UInt8) then (if x103005 ≥ 0 then (if x103005 ≤ 32 then ((policy_bits.f x103001 x103002 x103003 x103004).bind fun t103 => (if 0 ≤ x103005 then (some ((shl .u32 t103 x103005) == 0)) else (none))) else (some false)) else (some false)) else ((E.hCheck.f 0 0 0 0 x103006).bind fun t104 => (if t104 = true then (if (x103001 == 0 && (x103002 == 0 && (x103003 == 0 && (x103004 == 0)))) = true then (some (x103005 == 0)) else (some false)) else (some false))))
def policy_right.f (k : Nat) (a0_0 : Bool) (a0_1 : Int) (a0_2 : Int) (a0_3 : Int) (a0_4 : Int) (a0_5 : Int) (a0_6 : ByteArray) (a0_7 : Int) (a0_8 : Int) : Option (Bool) := if a0_7 < 1 then (policy_right.j0 k true a0_0 a0_1 a0_2 a0_3 a0_4 a0_5 a0_6 a0_7 a0_8) else (if a0_8 > 65535 then (policy_right.j0 k true a0_0 a0_1 a0_2 a0_3 a0_4 a0_5 a0_6 a0_7 a0_8) else (policy_right.j0 k (decide (a0_7 > a0_8)) a0_0 a0_1 a0_2 a0_3 a0_4 a0_5 a0_6 a0_7 a0_8))
theorem policy_right.mono_l : ∀ k, (∀ y0 y1 y2 y3 y4 y5 y6 y7 y8 y9, LeO (policy_right.j0 k y0 y1 y2 y3 y4 y5 y6 y7 y8 y9) (policy_right.j0 (k + 1) y0 y1 y2 y3 y4 y5 y6 y7 y8 y9))
  | 0 => fun _ _ _ _ _ _ _ _ _ _ r h => by simp [policy_right.j0] at h
  | k + 1 => by
    have ih0 := policy_right.mono_l k
    · intro y0 y1 y2 y3 y4 y5 y6 y7 y8 y9
      unfold policy_right.j0
      repeat' first
      | (with_reducible exact ih0 _ _ _ _ _ _ _ _ _ _)
      | (with_reducible exact LeO.refl _)
      | (with_reducible exact LeO.none _)
      | (with_reducible refine LeO.ite ?_ ?_)
      | (with_reducible refine LeO.bind ?_ (fun _ => ?_))
      | exact ih0 _ _ _ _ _ _ _ _ _ _
      | exact LeO.none _
      | refine LeO.ite ?_ ?_
      | refine LeO.bind ?_ (fun _ => ?_)
theorem policy_right.mono : ∀ a0 a1 a2 a3 a4 a5 a6 a7 a8 k, LeO (policy_right.f k a0 a1 a2 a3 a4 a5 a6 a7 a8) (policy_right.f (k + 1) a0 a1 a2 a3 a4 a5 a6 a7 a8) := by
  intro a0 a1 a2 a3 a4 a5 a6 a7 a8 k
  have ih0 := policy_right.mono_l k
  unfold policy_right.f
  repeat' first
      | (with_reducible exact ih0 _ _ _ _ _ _ _ _ _ _)
      | (with_reducible exact LeO.refl _)
      | (with_reducible exact LeO.none _)
      | (with_reducible refine LeO.ite ?_ ?_)
      | (with_reducible refine LeO.bind ?_ (fun _ => ?_))
      | exact ih0 _ _ _ _ _ _ _ _ _ _
      | exact LeO.none _
      | refine LeO.ite ?_ ?_
      | refine LeO.bind ?_ (fun _ => ?_)
def policy_right.T5 : Bool × List (List Nat × List Nat) := (true, [([], []), ([0], [0]), ([1], [1]), ([2], [2]), ([3], [3]), ([4, 3], [3, 4]), ([5, 3], [3, 5]), ([3, 6], [3, 6]), ([7, 3], [7]), ([8], [8]), ([9, 8], [8, 9]), ([10, 8, 8], [8, 10]), ([8], [8]), ([12, 8], [8, 12]), ([11, 13, 8], [8, 11, 13]), ([14, 8], [8, 14]), ([8, 15], [8, 15]), ([16, 11, 0, 1, 2, 3, 4, 5, 6, 7, 8, 9, 10, 11, 12, 13, 14, 15, 16], [16])])
def policy_right.B5 : List Nat := [0, 1, 3, 7, 15, 31, 63, 127, 255, 511, 1023, 2047, 511, 4607, 16383, 32767, 65535, 131071]
theorem policy_right.tab5 : rtab .any (opsOf Tryd.f18 5) = policy_right.T5 := by kernel_rfl
theorem policy_right.bits5 : waitsOk policy_right.T5.2 policy_right.B5 = true := by kernel_rfl
set_option maxHeartbeats 8000000 in
set_option maxRecDepth 100000 in
theorem policy_right.calls (k : Nat) (a0_0 : Bool) (a0_1 : Int) (a0_2 : Int) (a0_3 : Int) (a0_4 : Int) (a0_5 : Int) (a0_6 : ByteArray) (a0_7 : Int) (a0_8 : Int) (r : Bool) (w : World) (hS_ : StdW w) (h : policy_right.f k a0_0 a0_1 a0_2 a0_3 a0_4 a0_5 a0_6 a0_7 a0_8 = some r) :
    Calls Tryd.prog 18 #[.agg #[.bool a0_0, .int .u8 a0_1, .int .u8 a0_2, .int .u8 a0_3, .int .u8 a0_4, .int .i64 a0_5, .string a0_6, .int .i64 a0_7, .int .i64 a0_8]] w fun e w' => e = .returned (.bool r) ∧ Below w.heap.size w w' := by
  have hu33 := Tryd.underlying33
  have hu26 := Tryd.underlying26
  have hu24 := Tryd.underlying24
  have HS_ := Aside0.mk hS_
  clear hS_
  have HB := Aside0.mk (Below.refl w.heap.size w)
  have H : (if a0_7 < 1 then (policy_right.j0 k true a0_0 a0_1 a0_2 a0_3 a0_4 a0_5 a0_6 a0_7 a0_8) else (if a0_8 > 65535 then (policy_right.j0 k true a0_0 a0_1 a0_2 a0_3 a0_4 a0_5 a0_6 a0_7 a0_8) else (policy_right.j0 k (decide (a0_7 > a0_8)) a0_0 a0_1 a0_2 a0_3 a0_4 a0_5 a0_6 a0_7 a0_8))) = some r := h
  clear h
  have HC2 := Aside0.mk H
  clear H
  go_enter Tryd.func18, Tryd.ntmps18
  go_upto_region 1 with (first | ((with_reducible refine gate_dst (N := 1) rfl ?_); refine box_event ?hg (N := 1) ?hd (cs := #[.bool a0_0, .int .u8 a0_1, .int .u8 a0_2, .int .u8 a0_3, .int .u8 a0_4, .int .i64 a0_5, .string a0_6, .int .i64 a0_7, .int .i64 a0_8]) (t := 33) ?hr ?_; (case hd => rfl); (case hg => rfl); (case hr => first | (go_simp; done) | (go_simp; rfl)); intro gb102 hg w3 hbox hb; have n0_ := Aside0.mk (below_step (by repeat (first | (with_reducible first | exact HB.out | apply below_alloc | apply pw_below_drewN | apply below_drew1) | exact HB.out)) hb); have n1_ := Aside0.mk (hbox); have n2_ := Aside0.mk ((by rw [hg]; exact (below_size (by repeat (first | (with_reducible first | exact HB.out | apply below_alloc | apply pw_below_drewN | apply below_drew1) | exact HB.out))) : w.heap.size ≤ gb102)); have n3_ := Aside0.mk ((by rw [hg]; exact (below_size (by repeat (first | (with_reducible first | exact HB.out | apply below_alloc | apply pw_below_drewN | apply below_drew1) | exact HB.out))) : w.heap.size ≤ gb102)); clear HB; have HB := n0_; have BK102 := n1_; have GW102 := n2_; have GE102 := n3_; clear n0_ n1_ n2_ n3_; clear hb hbox hg))
  (try simp only [Act.put, List.setIfInBounds_toArray, List.set_cons_zero, List.set_cons_succ])
  go_cut [3] (fun v3 wc => ∃ (kq : Nat) (x3_1 : Bool), v3 = .bool x3_1 ∧ Aside0 (policy_right.j0 kq x3_1 a0_0 a0_1 a0_2 a0_3 a0_4 a0_5 a0_6 a0_7 a0_8 = some r) ∧ Aside0 (kq ≤ k) ∧ Aside0 (wc.heap[gb102]? = some (.cells #[.bool a0_0, .int .u8 a0_1, .int .u8 a0_2, .int .u8 a0_3, .int .u8 a0_4, .int .i64 a0_5, .string a0_6, .int .i64 a0_7, .int .i64 a0_8] 33 (0, 0))) ∧ Aside0 (Below w.heap.size w wc))
  case first =>
    have H := HC2.out
    clear HC2
    by_cases c4 : a0_7 < 1
    · rw [if_pos c4] at H
      have c4b0 : decide (a0_7 < 1) = true := decide_eq_true c4
      clear c4
      (first | rw [c4b0] | (simp only [i64_w, i32_w]; rw [c4b0]) | skip)
      have H' := Aside0.mk H
      clear H
      have hcz5_0 : w3.cell? ⟨gb102, 0, none⟩ = some (.bool a0_0) := (blk_cell BK102.out 0).trans rfl
      have hcz5_1 : w3.cell? ⟨gb102, 1, none⟩ = some (.int .u8 a0_1) := (blk_cell BK102.out 1).trans rfl
      have hcz5_2 : w3.cell? ⟨gb102, 2, none⟩ = some (.int .u8 a0_2) := (blk_cell BK102.out 2).trans rfl
      have hcz5_3 : w3.cell? ⟨gb102, 3, none⟩ = some (.int .u8 a0_3) := (blk_cell BK102.out 3).trans rfl
      have hcz5_4 : w3.cell? ⟨gb102, 4, none⟩ = some (.int .u8 a0_4) := (blk_cell BK102.out 4).trans rfl
      have hcz5_5 : w3.cell? ⟨gb102, 5, none⟩ = some (.int .i64 a0_5) := (blk_cell BK102.out 5).trans rfl
      have hcz5_6 : w3.cell? ⟨gb102, 6, none⟩ = some (.string a0_6) := (blk_cell BK102.out 6).trans rfl
      have hcz5_7 : w3.cell? ⟨gb102, 7, none⟩ = some (.int .i64 a0_7) := (blk_cell BK102.out 7).trans rfl
      have hcz5_8 : w3.cell? ⟨gb102, 8, none⟩ = some (.int .i64 a0_8) := (blk_cell BK102.out 8).trans rfl
      have hfz5_0 := blk_frozen BK102.out 0
      have hfz5_1 := blk_frozen BK102.out 1
      have hfz5_2 := blk_frozen BK102.out 2
      have hfz5_3 := blk_frozen BK102.out 3
      have hfz5_4 := blk_frozen BK102.out 4
      have hfz5_5 := blk_frozen BK102.out 5
      have hfz5_6 := blk_frozen BK102.out 6
      have hfz5_7 := blk_frozen BK102.out 7
      have hfz5_8 := blk_frozen BK102.out 8
      go_wp2
      go_meet
      case rel => exact ⟨_, (true), (by first | rfl | (simp; done) | (simp [*]; done)), H', ⟨by first | omega | exact Nat.le_refl _⟩, ⟨by (with_reducible repeat (first | refine blk_drewN ?_ _ | refine blk_drew ?_ | refine blk_alloc ?_ _)); exact BK102.out⟩, ⟨by repeat (first | (with_reducible first | exact HB.out | apply below_alloc | apply pw_below_drewN | apply below_drew1 | refine below_set ?_ GE102.out) | exact HB.out)⟩⟩
    · rw [if_neg c4] at H
      have c4b0 : decide (a0_7 < 1) = false := decide_eq_false c4
      clear c4
      (first | rw [c4b0] | (simp only [i64_w, i32_w]; rw [c4b0]) | skip)
      by_cases c6 : a0_8 > 65535
      · rw [if_pos c6] at H
        have c6b0 : decide (65535 < a0_8) = true := decide_eq_true c6
        clear c6
        have H' := Aside0.mk H
        clear H
        have hcz7_0 : w3.cell? ⟨gb102, 0, none⟩ = some (.bool a0_0) := (blk_cell BK102.out 0).trans rfl
        have hcz7_1 : w3.cell? ⟨gb102, 1, none⟩ = some (.int .u8 a0_1) := (blk_cell BK102.out 1).trans rfl
        have hcz7_2 : w3.cell? ⟨gb102, 2, none⟩ = some (.int .u8 a0_2) := (blk_cell BK102.out 2).trans rfl
        have hcz7_3 : w3.cell? ⟨gb102, 3, none⟩ = some (.int .u8 a0_3) := (blk_cell BK102.out 3).trans rfl
        have hcz7_4 : w3.cell? ⟨gb102, 4, none⟩ = some (.int .u8 a0_4) := (blk_cell BK102.out 4).trans rfl
        have hcz7_5 : w3.cell? ⟨gb102, 5, none⟩ = some (.int .i64 a0_5) := (blk_cell BK102.out 5).trans rfl
        have hcz7_6 : w3.cell? ⟨gb102, 6, none⟩ = some (.string a0_6) := (blk_cell BK102.out 6).trans rfl
        have hcz7_7 : w3.cell? ⟨gb102, 7, none⟩ = some (.int .i64 a0_7) := (blk_cell BK102.out 7).trans rfl
        have hcz7_8 : w3.cell? ⟨gb102, 8, none⟩ = some (.int .i64 a0_8) := (blk_cell BK102.out 8).trans rfl
        have hfz7_0 := blk_frozen BK102.out 0
        have hfz7_1 := blk_frozen BK102.out 1
        have hfz7_2 := blk_frozen BK102.out 2
        have hfz7_3 := blk_frozen BK102.out 3
        have hfz7_4 := blk_frozen BK102.out 4
        have hfz7_5 := blk_frozen BK102.out 5
        have hfz7_6 := blk_frozen BK102.out 6
        have hfz7_7 := blk_frozen BK102.out 7
        have hfz7_8 := blk_frozen BK102.out 8
        go_wp2
        go_meet
        case rel => exact ⟨_, (true), (by first | rfl | (simp; done) | (simp [*]; done)), H', ⟨by first | omega | exact Nat.le_refl _⟩, ⟨by (with_reducible repeat (first | refine blk_drewN ?_ _ | refine blk_drew ?_ | refine blk_alloc ?_ _)); exact BK102.out⟩, ⟨by repeat (first | (with_reducible first | exact HB.out | apply below_alloc | apply pw_below_drewN | apply below_drew1 | refine below_set ?_ GE102.out) | exact HB.out)⟩⟩
      · rw [if_neg c6] at H
        have c6b0 : decide (65535 < a0_8) = false := decide_eq_false c6
        clear c6
        have H' := Aside0.mk H
        clear H
        have hcz8_0 : w3.cell? ⟨gb102, 0, none⟩ = some (.bool a0_0) := (blk_cell BK102.out 0).trans rfl
        have hcz8_1 : w3.cell? ⟨gb102, 1, none⟩ = some (.int .u8 a0_1) := (blk_cell BK102.out 1).trans rfl
        have hcz8_2 : w3.cell? ⟨gb102, 2, none⟩ = some (.int .u8 a0_2) := (blk_cell BK102.out 2).trans rfl
        have hcz8_3 : w3.cell? ⟨gb102, 3, none⟩ = some (.int .u8 a0_3) := (blk_cell BK102.out 3).trans rfl
        have hcz8_4 : w3.cell? ⟨gb102, 4, none⟩ = some (.int .u8 a0_4) := (blk_cell BK102.out 4).trans rfl
        have hcz8_5 : w3.cell? ⟨gb102, 5, none⟩ = some (.int .i64 a0_5) := (blk_cell BK102.out 5).trans rfl
        have hcz8_6 : w3.cell? ⟨gb102, 6, none⟩ = some (.string a0_6) := (blk_cell BK102.out 6).trans rfl
        have hcz8_7 : w3.cell? ⟨gb102, 7, none⟩ = some (.int .i64 a0_7) := (blk_cell BK102.out 7).trans rfl
        have hcz8_8 : w3.cell? ⟨gb102, 8, none⟩ = some (.int .i64 a0_8) := (blk_cell BK102.out 8).trans rfl
        have hfz8_0 := blk_frozen BK102.out 0
        have hfz8_1 := blk_frozen BK102.out 1
        have hfz8_2 := blk_frozen BK102.out 2
        have hfz8_3 := blk_frozen BK102.out 3
        have hfz8_4 := blk_frozen BK102.out 4
        have hfz8_5 := blk_frozen BK102.out 5
        have hfz8_6 := blk_frozen BK102.out 6
        have hfz8_7 := blk_frozen BK102.out 7
        have hfz8_8 := blk_frozen BK102.out 8
        go_wp2
        go_meet
        case rel => exact ⟨_, (decide (a0_7 > a0_8)), (by first | rfl | (simp; done) | (simp [*]; done)), H', ⟨by first | omega | exact Nat.le_refl _⟩, ⟨by (with_reducible repeat (first | refine blk_drewN ?_ _ | refine blk_drew ?_ | refine blk_alloc ?_ _)); exact BK102.out⟩, ⟨by repeat (first | (with_reducible first | exact HB.out | apply below_alloc | apply pw_below_drewN | apply below_drew1 | refine below_set ?_ GE102.out) | exact HB.out)⟩⟩
  case rest =>
    clear HC2
    try clear c1
    try clear p2
    try clear c4
    try clear c4b0
    try clear c6
    try clear c6b0
    try clear hcz5_0
    try clear hcz5_1
    try clear hcz5_2
    try clear hcz5_3
    try clear hcz5_4
    try clear hcz5_5
    try clear hcz5_6
    try clear hcz5_7
    try clear hcz5_8
    try clear hcz7_0
    try clear hcz7_1
    try clear hcz7_2
    try clear hcz7_3
    try clear hcz7_4
    try clear hcz7_5
    try clear hcz7_6
    try clear hcz7_7
    try clear hcz7_8
    try clear hcz8_0
    try clear hcz8_1
    try clear hcz8_2
    try clear hcz8_3
    try clear hcz8_4
    try clear hcz8_5
    try clear hcz8_6
    try clear hcz8_7
    try clear hcz8_8
    try clear hfz5_0
    try clear hfz5_1
    try clear hfz5_2
    try clear hfz5_3
    try clear hfz5_4
    try clear hfz5_5
    try clear hfz5_6
    try clear hfz5_7
    try clear hfz5_8
    try clear hfz7_0
    try clear hfz7_1
    try clear hfz7_2
    try clear hfz7_3
    try clear hfz7_4
    try clear hfz7_5
    try clear hfz7_6
    try clear hfz7_7
    try clear hfz7_8
    try clear hfz8_0
    try clear hfz8_1
    try clear hfz8_2
    try clear hfz8_3
    try clear hfz8_4
    try clear hfz8_5
    try clear hfz8_6
    try clear hfz8_7
    try clear hfz8_8
    obtain ⟨kq, x3_1, rfl, HA, HJ1, BK102, HB⟩ := hcut
    cases kq with
    | zero => exact absurd HA.out (by simp [policy_right.j0])
    | succ kj1 =>
      have H := HA.out
      clear HA
      simp only [policy_right.j0] at H
      by_cases c9 : x3_1 = true
      · subst c9
        have H1 : (some false) = some r := by rw [if_pos rfl] at H; exact H
        clear H
        have H := H1
        clear H1
        obtain rfl := Option.some.inj H
        go_wp2
        go_ret
        exact ⟨by first | rfl | (simp [errW_none, errW_some] <;> rfl) | (simp [*, errW_none, errW_some] <;> rfl), by repeat (first | (with_reducible first | exact HB.out | apply below_alloc | apply pw_below_drewN | apply below_drew1 | refine below_set ?_ GE102.out) | exact HB.out)⟩
      · replace c9 := Bool.eq_false_iff.mpr c9
        subst c9
        have H1 : (if a0_6.toList = ([] : List UInt8) then (if a0_5 ≥ 0 then (if a0_5 ≤ 32 then ((policy_bits.f a0_1 a0_2 a0_3 a0_4).bind fun t103 => (if 0 ≤ a0_5 then (some ((shl .u32 t103 a0_5) == 0)) else (none))) else (some false)) else (some false)) else ((E.hCheck.f 0 0 0 0 a0_6).bind fun t104 => (if t104 = true then (if (a0_1 == 0 && (a0_2 == 0 && (a0_3 == 0 && (a0_4 == 0)))) = true then (some (a0_5 == 0)) else (some false)) else (some false)))) = some r := by rw [if_neg (show ¬ (false = true) by decide)] at H; exact H
        clear H
        have H := H1
        clear H1
        by_cases c10 : a0_6.toList = ([] : List UInt8)
        · rw [if_pos c10] at H
          have c10b0 : (a0_6.toList == ([] : List UInt8)) = true := beq_iff_eq.mpr c10
          have c10b1 : (a0_6.toList != ([] : List UInt8)) = false := bne_eq_false_iff_eq.mpr c10
          clear c10
          by_cases c11 : a0_5 ≥ 0
          · rw [if_pos c11] at H
            have c11b0 : decide (0 ≤ a0_5) = true := decide_eq_true c11
            clear c11
            by_cases c12 : a0_5 ≤ 32
            · rw [if_pos c12] at H
              have c12b0 : decide (a0_5 ≤ 32) = true := decide_eq_true c12
              clear c12
              replace H := Option.bind_eq_some_iff.mp H
              obtain ⟨t103, A130, H⟩ := H
              replace H : (if 0 ≤ a0_5 then (some ((shl .u32 t103 a0_5) == 0)) else (none)) = some r := H
              have A13 := Aside0.mk A130
              clear A130
              by_cases c14 : 0 ≤ a0_5
              · rw [if_pos c14] at H
                have c14b0 := eq_true c14
                have c14b1 : decide (0 ≤ a0_5) = true := decide_eq_true c14
                clear c14
                obtain ⟨ji15, hji15⟩ : ∃ j_ : Int, (shl .u32 t103 a0_5) = j_ := ⟨_, rfl⟩
                replace H : (some ((ji15) == 0)) = some r := by first | (rw [hji15] at H; exact H) | (simp only [hji15] at H ⊢; exact H)
                (try rw [hji15] at A13)
                have hji15_ : (IntKind.u32.wrap (t103 * 2 ^ min a0_5.toNat 32)) = ji15 := hji15
                have hji15z : a0_5 ≤ 32 → (IntKind.u32.wrap (t103 * 2 ^ a0_5.toNat)) = ji15 := shl_small hji15
                obtain rfl := Option.some.inj H
                have hcz16_0 : wc.cell? ⟨gb102, 0, none⟩ = some (.bool a0_0) := (blk_cell BK102.out 0).trans rfl
                have hcz16_1 : wc.cell? ⟨gb102, 1, none⟩ = some (.int .u8 a0_1) := (blk_cell BK102.out 1).trans rfl
                have hcz16_2 : wc.cell? ⟨gb102, 2, none⟩ = some (.int .u8 a0_2) := (blk_cell BK102.out 2).trans rfl
                have hcz16_3 : wc.cell? ⟨gb102, 3, none⟩ = some (.int .u8 a0_3) := (blk_cell BK102.out 3).trans rfl
                have hcz16_4 : wc.cell? ⟨gb102, 4, none⟩ = some (.int .u8 a0_4) := (blk_cell BK102.out 4).trans rfl
                have hcz16_5 : wc.cell? ⟨gb102, 5, none⟩ = some (.int .i64 a0_5) := (blk_cell BK102.out 5).trans rfl
                have hcz16_6 : wc.cell? ⟨gb102, 6, none⟩ = some (.string a0_6) := (blk_cell BK102.out 6).trans rfl
                have hcz16_7 : wc.cell? ⟨gb102, 7, none⟩ = some (.int .i64 a0_7) := (blk_cell BK102.out 7).trans rfl
                have hcz16_8 : wc.cell? ⟨gb102, 8, none⟩ = some (.int .i64 a0_8) := (blk_cell BK102.out 8).trans rfl
                have hfz16_0 := blk_frozen BK102.out 0
                have hfz16_1 := blk_frozen BK102.out 1
                have hfz16_2 := blk_frozen BK102.out 2
                have hfz16_3 := blk_frozen BK102.out 3
                have hfz16_4 := blk_frozen BK102.out 4
                have hfz16_5 := blk_frozen BK102.out 5
                have hfz16_6 := blk_frozen BK102.out 6
                have hfz16_7 := blk_frozen BK102.out 7
                have hfz16_8 := blk_frozen BK102.out 8
                try go_wp2
                have n0_ := Aside0.mk (blk_drew BK102.out)
                have n1_ := Aside0.mk (below_drew1 HB.out)
                clear BK102
                clear HB
                have BK102 := n0_
                have HB := n1_
                clear n0_ n1_
                refine start_ (n := 18) (S := fun w' => w'.cell? ⟨gb102, 0, none⟩ = some (.bool a0_0) ∧ w'.cell? ⟨gb102, 1, none⟩ = some (.int .u8 a0_1) ∧ w'.cell? ⟨gb102, 2, none⟩ = some (.int .u8 a0_2) ∧ w'.cell? ⟨gb102, 3, none⟩ = some (.int .u8 a0_3) ∧ w'.cell? ⟨gb102, 4, none⟩ = some (.int .u8 a0_4) ∧ w'.cell? ⟨gb102, 5, none⟩ = some (.int .i64 a0_5) ∧ w'.cell? ⟨gb102, 6, none⟩ = some (.string a0_6) ∧ w'.cell? ⟨gb102, 7, none⟩ = some (.int .i64 a0_7) ∧ w'.cell? ⟨gb102, 8, none⟩ = some (.int .i64 a0_8)) (ds := []) #[false, false, false, false, false, false, false, false, false, false, false, false, false, false, false, false, false, false] (by kernel_rfl) rfl rfl ⟨(blk_cell BK102.out 0).trans rfl, (blk_cell BK102.out 1).trans rfl, (blk_cell BK102.out 2).trans rfl, (blk_cell BK102.out 3).trans rfl, (blk_cell BK102.out 4).trans rfl, (blk_cell BK102.out 5).trans rfl, (blk_cell BK102.out 6).trans rfl, (blk_cell BK102.out 7).trans rfl, (blk_cell BK102.out 8).trans rfl⟩ (fun hHeld => ?_); refine with_tabW policy_right.tab5 policy_right.bits5 (fun HT_ HW_ => ?_)
                generalize wc.drew = w17 at BK102 HB hHeld ⊢
                refine pure_ (i := 0) (N := some 38) (v := ?_) (a' := ?_) #[true, false, false, false, false, false, false, false, false, false, false, false, false, false, false, false, false, false] rfl rfl (any_of HT_.out (by kernel_rfl)) (fun _ _ _ h => h) (Or.inl ⟨by rfl, ?_⟩) ?_ ?_
                rotate_left
                · intro w'
                  go_simp
                  with_reducible rfl
                rotate_left
                · simp only [Act.put, List.setIfInBounds_toArray, List.set_cons_zero, List.set_cons_succ, i64_w, i32_w]
                  rfl
                refine take_ (i := 1) (N := some 39) (v := ?_) (a' := ?_) #[true, true, false, false, false, false, false, false, false, false, false, false, false, false, false, false, false, false] rfl rfl (take_ofW HT_.out HW_.out (by kernel_rfl)) (fun _ _ _ h => h) (Or.inl ⟨by rfl, ?_⟩) hHeld ?_ ?_
                rotate_left
                · rintro w' ⟨s0, s1, s2, s3, s4, s5, s6, s7, s8⟩
                  go_simp
                  with_reducible rfl
                rotate_left
                · simp only [Act.put, List.setIfInBounds_toArray, List.set_cons_zero, List.set_cons_succ, i64_w, i32_w]
                  rfl
                refine pure_ (i := 2) (N := some 40) (v := ?_) (a' := ?_) #[true, true, true, false, false, false, false, false, false, false, false, false, false, false, false, false, false, false] rfl rfl (any_of HT_.out (by kernel_rfl)) (fun _ _ _ h => h) (Or.inl ⟨by rfl, ?_⟩) ?_ ?_
                rotate_left
                · intro w'
                  go_simp
                  with_reducible rfl
                rotate_left
                · simp only [Act.put, List.setIfInBounds_toArray, List.set_cons_zero, List.set_cons_succ, i64_w, i32_w]
                  rfl
                refine pure_ (i := 3) (N := some 41) (v := ?_) (a' := ?_) #[true, true, true, true, false, false, false, false, false, false, false, false, false, false, false, false, false, false] rfl rfl (any_of HT_.out (by kernel_rfl)) (fun _ _ _ h => h) (Or.inl ⟨by rfl, ?_⟩) ?_ ?_
                rotate_left
                · intro w'
                  go_simp
                  with_reducible rfl
                rotate_left
                · simp only [Act.put, List.setIfInBounds_toArray, List.set_cons_zero, List.set_cons_succ, i64_w, i32_w]
                  rfl
                refine pure_ (i := 4) (N := some 42) (v := ?_) (a' := ?_) #[true, true, true, true, true, false, false, false, false, false, false, false, false, false, false, false, false, false] rfl rfl (any_of HT_.out (by kernel_rfl)) (fun _ _ _ h => h) (Or.inl ⟨by rfl, ?_⟩) ?_ ?_
                rotate_left
                · intro w'
                  go_simp
                  with_reducible rfl
                rotate_left
                · simp only [Act.put, List.setIfInBounds_toArray, List.set_cons_zero, List.set_cons_succ, i64_w, i32_w]
                  rfl
                refine take_ (i := 5) (N := some 43) (v := ?_) (a' := ?_) #[true, true, true, true, true, true, false, false, false, false, false, false, false, false, false, false, false, false] rfl rfl (take_ofW HT_.out HW_.out (by kernel_rfl)) (fun _ _ _ h => h) (Or.inl ⟨by rfl, ?_⟩) hHeld ?_ ?_
                rotate_left
                · rintro w' ⟨s0, s1, s2, s3, s4, s5, s6, s7, s8⟩
                  go_simp
                  with_reducible rfl
                rotate_left
                · simp only [Act.put, List.setIfInBounds_toArray, List.set_cons_zero, List.set_cons_succ, i64_w, i32_w]
                  rfl
                refine pure_ (i := 6) (N := some 44) (v := ?_) (a' := ?_) #[true, true, true, true, true, true, true, false, false, false, false, false, false, false, false, false, false, false] rfl rfl (any_of HT_.out (by kernel_rfl)) (fun _ _ _ h => h) (Or.inl ⟨by rfl, ?_⟩) ?_ ?_
                rotate_left
                · intro w'
                  go_simp
                  with_reducible rfl
                rotate_left
                · simp only [Act.put, List.setIfInBounds_toArray, List.set_cons_zero, List.set_cons_succ, i64_w, i32_w]
                  rfl
                refine pure_ (i := 7) (N := some 45) (v := ?_) (a' := ?_) #[true, true, true, true, true, true, true, true, false, false, false, false, false, false, false, false, false, false] rfl rfl (any_of HT_.out (by kernel_rfl)) (fun _ _ _ h => h) (Or.inl ⟨by rfl, ?_⟩) ?_ ?_
                rotate_left
                · intro w'
                  go_simp
                  with_reducible rfl
                rotate_left
                · simp only [Act.put, List.setIfInBounds_toArray, List.set_cons_zero, List.set_cons_succ, i64_w, i32_w]
                  rfl
                refine pure_ (i := 8) (N := some 46) (v := ?_) (a' := ?_) #[true, true, true, true, true, true, true, true, true, false, false, false, false, false, false, false, false, false] rfl rfl (any_of HT_.out (by kernel_rfl)) (fun _ _ _ h => h) (Or.inl ⟨by rfl, ?_⟩) ?_ ?_
                rotate_left
                · intro w'
                  go_simp
                  with_reducible rfl
                rotate_left
                · simp only [Act.put, List.setIfInBounds_toArray, List.set_cons_zero, List.set_cons_succ, i64_w, i32_w]
                  rfl
                refine pure_ (i := 9) (N := some 47) (v := ?_) (a' := ?_) #[true, true, true, true, true, true, true, true, true, true, false, false, false, false, false, false, false, false] rfl rfl (any_of HT_.out (by kernel_rfl)) (fun _ _ _ h => h) (Or.inl ⟨by rfl, ?_⟩) ?_ ?_
                rotate_left
                · intro w'
                  go_simp
                  with_reducible rfl
                rotate_left
                · simp only [Act.put, List.setIfInBounds_toArray, List.set_cons_zero, List.set_cons_succ, i64_w, i32_w]
                  rfl
                refine pure_ (i := 12) (N := some 50) (v := ?_) (a' := ?_) #[true, true, true, true, true, true, true, true, true, true, false, false, true, false, false, false, false, false] rfl rfl (any_of HT_.out (by kernel_rfl)) (fun _ _ _ h => h) (Or.inl ⟨by rfl, ?_⟩) ?_ ?_
                rotate_left
                · intro w'
                  go_simp
                  with_reducible rfl
                rotate_left
                · simp only [Act.put, List.setIfInBounds_toArray, List.set_cons_zero, List.set_cons_succ, i64_w, i32_w]
                  rfl
                refine take_ (i := 10) (N := some 48) (v := ?_) (a' := ?_) #[true, true, true, true, true, true, true, true, true, true, true, false, true, false, false, false, false, false] rfl rfl (take_ofW HT_.out HW_.out (by kernel_rfl)) (fun _ _ _ h => h) (Or.inl ⟨by rfl, ?_⟩) hHeld ?_ ?_
                rotate_left
                · rintro w' ⟨s0, s1, s2, s3, s4, s5, s6, s7, s8⟩
                  go_simp
                  with_reducible rfl
                rotate_left
                · simp only [Act.put, List.setIfInBounds_toArray, List.set_cons_zero, List.set_cons_succ, i64_w, i32_w]
                  rfl
                refine take_ (i := 13) (N := some 51) (v := ?_) (a' := ?_) #[true, true, true, true, true, true, true, true, true, true, true, false, true, true, false, false, false, false] rfl rfl (take_ofW HT_.out HW_.out (by kernel_rfl)) (fun _ _ _ h => h) (Or.inl ⟨by rfl, ?_⟩) hHeld ?_ ?_
                rotate_left
                · rintro w' ⟨s0, s1, s2, s3, s4, s5, s6, s7, s8⟩
                  go_simp
                  with_reducible rfl
                rotate_left
                · simp only [Act.put, List.setIfInBounds_toArray, List.set_cons_zero, List.set_cons_succ, i64_w, i32_w]
                  rfl
                refine one_ (i := 11) (N := some 49) #[true, true, true, true, true, true, true, true, true, true, true, true, true, true, false, false, false, false] rfl rfl (one_of HT_.out (by kernel_rfl)) (by decide) (fun K hK => ?_)
                refine goes_ Tryd.func30 (by kernel_rfl) rfl #[.agg #[.int .u8 a0_1, .int .u8 a0_2, .int .u8 a0_3, .int .u8 a0_4]] (by rfl) rfl rfl (by (try simp only [List.map_toArray, List.map_cons, List.map_nil]); first | done | rfl | (simp only [List.length_drop, List.length_take]; rfl)) ?_
                with_reducible refine (policy_bits.calls a0_1 a0_2 a0_3 a0_4 t103 _ A13.out).mono ?_
                rintro e w18 ⟨rfl, hb⟩
                refine ⟨_, rfl, ?_⟩
                have n0_ := Aside0.mk (blk_below (g := gb102) (o := .cells #[.bool a0_0, .int .u8 a0_1, .int .u8 a0_2, .int .u8 a0_3, .int .u8 a0_4, .int .i64 a0_5, .string a0_6, .int .i64 a0_7, .int .i64 a0_8] 33 (0, 0)) (by (with_reducible repeat (first | refine blk_drewN ?_ _ | refine blk_drew ?_ | refine blk_alloc ?_ _)); exact BK102.out) hb)
                have n1_ := Aside0.mk (below_step (by repeat (first | (with_reducible first | exact HB.out | apply below_alloc | apply pw_below_drewN | apply below_drew1 | refine below_set ?_ GE102.out) | exact HB.out)) hb)
                clear BK102
                clear HB
                have BK102 := n0_
                have HB := n1_
                clear n0_ n1_
                (try clear hb)
                (try clear hb2)
                (try clear hk)
                (try clear hi)
                refine hK.out _ _ ⟨(blk_cell BK102.out 0).trans rfl, (blk_cell BK102.out 1).trans rfl, (blk_cell BK102.out 2).trans rfl, (blk_cell BK102.out 3).trans rfl, (blk_cell BK102.out 4).trans rfl, (blk_cell BK102.out 5).trans rfl, (blk_cell BK102.out 6).trans rfl, (blk_cell BK102.out 7).trans rfl, (blk_cell BK102.out 8).trans rfl⟩ (fun hHeld => ?_)
                clear hK K
                refine norm_ (a' := ?_) ?_ ?_
                rotate_left
                · show Act.put _ (some 49) _ = _
                  simp only [Act.put, List.setIfInBounds_toArray, List.set_cons_zero, List.set_cons_succ, i64_w, i32_w]
                  rfl
                refine pure_ (i := 14) (N := some 52) (v := ?_) (a' := ?_) #[true, true, true, true, true, true, true, true, true, true, true, true, true, true, true, false, false, false] rfl rfl (any_of HT_.out (by kernel_rfl)) (fun _ _ _ h => h) (Or.inl ⟨by rfl, ?_⟩) ?_ ?_
                rotate_left
                · intro w'
                  go_simp
                  with_reducible rfl
                rotate_left
                · simp only [Act.put, List.setIfInBounds_toArray, List.set_cons_zero, List.set_cons_succ, i64_w, i32_w]
                  rfl
                refine pure_ (i := 15) (N := some 53) (v := ?_) (a' := ?_) #[true, true, true, true, true, true, true, true, true, true, true, true, true, true, true, true, false, false] rfl rfl (any_of HT_.out (by kernel_rfl)) (fun _ _ _ h => h) (Or.inl ⟨by rfl, ?_⟩) ?_ ?_
                rotate_left
                · intro w'
                  go_simp
                  with_reducible rfl
                rotate_left
                · simp only [Act.put, List.setIfInBounds_toArray, List.set_cons_zero, List.set_cons_succ, i64_w, i32_w]
                  rfl
                refine pure_ (i := 16) (N := some 54) (v := ?_) (a' := ?_) #[true, true, true, true, true, true, true, true, true, true, true, true, true, true, true, true, true, false] rfl rfl (any_of HT_.out (by kernel_rfl)) (fun _ _ _ h => h) (Or.inl ⟨by rfl, ?_⟩) ?_ ?_
                rotate_left
                · intro w'
                  go_simp
                  with_reducible rfl
                rotate_left
                · simp only [Act.put, List.setIfInBounds_toArray, List.set_cons_zero, List.set_cons_succ, i64_w, i32_w]
                  rfl
                refine pure_ (i := 17) (N := some 2) (v := ?_) (a' := ?_) #[true, true, true, true, true, true, true, true, true, true, true, true, true, true, true, true, true, true] rfl rfl (any_of HT_.out (by kernel_rfl)) (fun _ _ _ h => h) (Or.inl ⟨by rfl, ?_⟩) ?_ ?_
                rotate_left
                · intro w'
                  go_simp
                  with_reducible rfl
                rotate_left
                · simp only [Act.put, List.setIfInBounds_toArray, List.set_cons_zero, List.set_cons_succ, i64_w, i32_w]
                  rfl
                refine done_ (done_of HT_.out (by kernel_rfl)) ?_
                try go_wp2
                go_ret
                exact ⟨by first | rfl | (simp [errW_none, errW_some] <;> rfl) | (simp only [← hji15]; first | rfl | (simp [errW_none, errW_some] <;> rfl)) | (simp [*, errW_none, errW_some] <;> rfl), by repeat (first | (with_reducible first | exact HB.out | apply below_alloc | apply pw_below_drewN | apply below_drew1 | refine below_set ?_ GE102.out) | exact HB.out)⟩
              · rw [if_neg c14] at H
                exact absurd H (by simp)
            · rw [if_neg c12] at H
              have c12b0 : decide (a0_5 ≤ 32) = false := decide_eq_false c12
              clear c12
              obtain rfl := Option.some.inj H
              have hcz19_0 : wc.cell? ⟨gb102, 0, none⟩ = some (.bool a0_0) := (blk_cell BK102.out 0).trans rfl
              have hcz19_1 : wc.cell? ⟨gb102, 1, none⟩ = some (.int .u8 a0_1) := (blk_cell BK102.out 1).trans rfl
              have hcz19_2 : wc.cell? ⟨gb102, 2, none⟩ = some (.int .u8 a0_2) := (blk_cell BK102.out 2).trans rfl
              have hcz19_3 : wc.cell? ⟨gb102, 3, none⟩ = some (.int .u8 a0_3) := (blk_cell BK102.out 3).trans rfl
              have hcz19_4 : wc.cell? ⟨gb102, 4, none⟩ = some (.int .u8 a0_4) := (blk_cell BK102.out 4).trans rfl
              have hcz19_5 : wc.cell? ⟨gb102, 5, none⟩ = some (.int .i64 a0_5) := (blk_cell BK102.out 5).trans rfl
              have hcz19_6 : wc.cell? ⟨gb102, 6, none⟩ = some (.string a0_6) := (blk_cell BK102.out 6).trans rfl
              have hcz19_7 : wc.cell? ⟨gb102, 7, none⟩ = some (.int .i64 a0_7) := (blk_cell BK102.out 7).trans rfl
              have hcz19_8 : wc.cell? ⟨gb102, 8, none⟩ = some (.int .i64 a0_8) := (blk_cell BK102.out 8).trans rfl
              have hfz19_0 := blk_frozen BK102.out 0
              have hfz19_1 := blk_frozen BK102.out 1
              have hfz19_2 := blk_frozen BK102.out 2
              have hfz19_3 := blk_frozen BK102.out 3
              have hfz19_4 := blk_frozen BK102.out 4
              have hfz19_5 := blk_frozen BK102.out 5
              have hfz19_6 := blk_frozen BK102.out 6
              have hfz19_7 := blk_frozen BK102.out 7
              have hfz19_8 := blk_frozen BK102.out 8
              try go_wp2
              have n0_ := Aside0.mk (blk_drew BK102.out)
              have n1_ := Aside0.mk (below_drew1 HB.out)
              clear BK102
              clear HB
              have BK102 := n0_
              have HB := n1_
              clear n0_ n1_
              refine start_ (n := 18) (S := fun w' => w'.cell? ⟨gb102, 0, none⟩ = some (.bool a0_0) ∧ w'.cell? ⟨gb102, 1, none⟩ = some (.int .u8 a0_1) ∧ w'.cell? ⟨gb102, 2, none⟩ = some (.int .u8 a0_2) ∧ w'.cell? ⟨gb102, 3, none⟩ = some (.int .u8 a0_3) ∧ w'.cell? ⟨gb102, 4, none⟩ = some (.int .u8 a0_4) ∧ w'.cell? ⟨gb102, 5, none⟩ = some (.int .i64 a0_5) ∧ w'.cell? ⟨gb102, 6, none⟩ = some (.string a0_6) ∧ w'.cell? ⟨gb102, 7, none⟩ = some (.int .i64 a0_7) ∧ w'.cell? ⟨gb102, 8, none⟩ = some (.int .i64 a0_8)) (ds := []) #[false, false, false, false, false, false, false, false, false, false, false, false, false, false, false, false, false, false] (by kernel_rfl) rfl rfl ⟨(blk_cell BK102.out 0).trans rfl, (blk_cell BK102.out 1).trans rfl, (blk_cell BK102.out 2).trans rfl, (blk_cell BK102.out 3).trans rfl, (blk_cell BK102.out 4).trans rfl, (blk_cell BK102.out 5).trans rfl, (blk_cell BK102.out 6).trans rfl, (blk_cell BK102.out 7).trans rfl, (blk_cell BK102.out 8).trans rfl⟩ (fun hHeld => ?_); refine with_tabW policy_right.tab5 policy_right.bits5 (fun HT_ HW_ => ?_)
              generalize wc.drew = w20 at BK102 HB hHeld ⊢
              refine pure_ (i := 0) (N := some 38) (v := ?_) (a' := ?_) #[true, false, false, false, false, false, false, false, false, false, false, false, false, false, false, false, false, false] rfl rfl (any_of HT_.out (by kernel_rfl)) (fun _ _ _ h => h) (Or.inl ⟨by rfl, ?_⟩) ?_ ?_
              rotate_left
              · intro w'
                go_simp
                with_reducible rfl
              rotate_left
              · simp only [Act.put, List.setIfInBounds_toArray, List.set_cons_zero, List.set_cons_succ, i64_w, i32_w]
                rfl
              refine take_ (i := 1) (N := some 39) (v := ?_) (a' := ?_) #[true, true, false, false, false, false, false, false, false, false, false, false, false, false, false, false, false, false] rfl rfl (take_ofW HT_.out HW_.out (by kernel_rfl)) (fun _ _ _ h => h) (Or.inl ⟨by rfl, ?_⟩) hHeld ?_ ?_
              rotate_left
              · rintro w' ⟨s0, s1, s2, s3, s4, s5, s6, s7, s8⟩
                go_simp
                with_reducible rfl
              rotate_left
              · simp only [Act.put, List.setIfInBounds_toArray, List.set_cons_zero, List.set_cons_succ, i64_w, i32_w]
                rfl
              refine pure_ (i := 2) (N := some 40) (v := ?_) (a' := ?_) #[true, true, true, false, false, false, false, false, false, false, false, false, false, false, false, false, false, false] rfl rfl (any_of HT_.out (by kernel_rfl)) (fun _ _ _ h => h) (Or.inl ⟨by rfl, ?_⟩) ?_ ?_
              rotate_left
              · intro w'
                go_simp
                with_reducible rfl
              rotate_left
              · simp only [Act.put, List.setIfInBounds_toArray, List.set_cons_zero, List.set_cons_succ, i64_w, i32_w]
                rfl
              refine pure_ (i := 3) (N := some 41) (v := ?_) (a' := ?_) #[true, true, true, true, false, false, false, false, false, false, false, false, false, false, false, false, false, false] rfl rfl (any_of HT_.out (by kernel_rfl)) (fun _ _ _ h => h) (Or.inl ⟨by rfl, ?_⟩) ?_ ?_
              rotate_left
              · intro w'
                go_simp
                with_reducible rfl
              rotate_left
              · simp only [Act.put, List.setIfInBounds_toArray, List.set_cons_zero, List.set_cons_succ, i64_w, i32_w]
                rfl
              refine pure_ (i := 4) (N := some 42) (v := ?_) (a' := ?_) #[true, true, true, true, true, false, false, false, false, false, false, false, false, false, false, false, false, false] rfl rfl (any_of HT_.out (by kernel_rfl)) (fun _ _ _ h => h) (Or.inl ⟨by rfl, ?_⟩) ?_ ?_
              rotate_left
              · intro w'
                go_simp
                with_reducible rfl
              rotate_left
              · simp only [Act.put, List.setIfInBounds_toArray, List.set_cons_zero, List.set_cons_succ, i64_w, i32_w]
                rfl
              refine take_ (i := 5) (N := some 43) (v := ?_) (a' := ?_) #[true, true, true, true, true, true, false, false, false, false, false, false, false, false, false, false, false, false] rfl rfl (take_ofW HT_.out HW_.out (by kernel_rfl)) (fun _ _ _ h => h) (Or.inl ⟨by rfl, ?_⟩) hHeld ?_ ?_
              rotate_left
              · rintro w' ⟨s0, s1, s2, s3, s4, s5, s6, s7, s8⟩
                go_simp
                with_reducible rfl
              rotate_left
              · simp only [Act.put, List.setIfInBounds_toArray, List.set_cons_zero, List.set_cons_succ, i64_w, i32_w]
                rfl
              refine pure_ (i := 6) (N := some 44) (v := ?_) (a' := ?_) #[true, true, true, true, true, true, true, false, false, false, false, false, false, false, false, false, false, false] rfl rfl (any_of HT_.out (by kernel_rfl)) (fun _ _ _ h => h) (Or.inl ⟨by rfl, ?_⟩) ?_ ?_
              rotate_left
              · intro w'
                go_simp
                with_reducible rfl
              rotate_left
              · simp only [Act.put, List.setIfInBounds_toArray, List.set_cons_zero, List.set_cons_succ, i64_w, i32_w]
                rfl
              refine pure_ (i := 7) (N := some 45) (v := ?_) (a' := ?_) #[true, true, true, true, true, true, true, true, false, false, false, false, false, false, false, false, false, false] rfl rfl (any_of HT_.out (by kernel_rfl)) (fun _ _ _ h => h) (Or.inl ⟨by rfl, ?_⟩) ?_ ?_
              rotate_left
              · intro w'
                go_simp
                with_reducible rfl
              rotate_left
              · simp only [Act.put, List.setIfInBounds_toArray, List.set_cons_zero, List.set_cons_succ, i64_w, i32_w]
                rfl
              refine pure_ (i := 8) (N := some 46) (v := ?_) (a' := ?_) #[true, true, true, true, true, true, true, true, true, false, false, false, false, false, false, false, false, false] rfl rfl (any_of HT_.out (by kernel_rfl)) (fun _ _ _ h => h) (Or.inl ⟨by rfl, ?_⟩) ?_ ?_
              rotate_left
              · intro w'
                go_simp
                with_reducible rfl
              rotate_left
              · simp only [Act.put, List.setIfInBounds_toArray, List.set_cons_zero, List.set_cons_succ, i64_w, i32_w]
                rfl
              refine pure_ (i := 9) (N := some 47) (v := undef) (a' := ?_) #[true, true, true, true, true, true, true, true, true, true, false, false, false, false, false, false, false, false] rfl rfl (any_of HT_.out (by kernel_rfl)) (fun _ _ _ h => h) (Or.inr ⟨by rfl, rfl⟩) ?_ ?_
              rotate_left
              · simp only [Act.put, List.setIfInBounds_toArray, List.set_cons_zero, List.set_cons_succ, i64_w, i32_w]
                rfl
              refine pure_ (i := 10) (N := some 48) (v := undef) (a' := ?_) #[true, true, true, true, true, true, true, true, true, true, true, false, false, false, false, false, false, false] rfl rfl (any_of HT_.out (by kernel_rfl)) (fun _ _ _ h => h) (Or.inr ⟨by rfl, rfl⟩) ?_ ?_
              rotate_left
              · simp only [Act.put, List.setIfInBounds_toArray, List.set_cons_zero, List.set_cons_succ, i64_w, i32_w]
                rfl
              refine pure_ (i := 11) (N := some 49) (v := undef) (a' := ?_) #[true, true, true, true, true, true, true, true, true, true, true, true, false, false, false, false, false, false] rfl rfl (any_of HT_.out (by kernel_rfl)) (fun _ _ _ h => h) (Or.inr ⟨by rfl, rfl⟩) ?_ ?_
              rotate_left
              · simp only [Act.put, List.setIfInBounds_toArray, List.set_cons_zero, List.set_cons_succ, i64_w, i32_w]
                rfl
              refine pure_ (i := 12) (N := some 50) (v := undef) (a' := ?_) #[true, true, true, true, true, true, true, true, true, true, true, true, true, false, false, false, false, false] rfl rfl (any_of HT_.out (by kernel_rfl)) (fun _ _ _ h => h) (Or.inr ⟨by rfl, rfl⟩) ?_ ?_
              rotate_left
              · simp only [Act.put, List.setIfInBounds_toArray, List.set_cons_zero, List.set_cons_succ, i64_w, i32_w]
                rfl
              refine pure_ (i := 13) (N := some 51) (v := undef) (a' := ?_) #[true, true, true, true, true, true, true, true, true, true, true, true, true, true, false, false, false, false] rfl rfl (any_of HT_.out (by kernel_rfl)) (fun _ _ _ h => h) (Or.inr ⟨by rfl, rfl⟩) ?_ ?_
              rotate_left
              · simp only [Act.put, List.setIfInBounds_toArray, List.set_cons_zero, List.set_cons_succ, i64_w, i32_w]
                rfl
              refine pure_ (i := 14) (N := some 52) (v := undef) (a' := ?_) #[true, true, true, true, true, true, true, true, true, true, true, true, true, true, true, false, false, false] rfl rfl (any_of HT_.out (by kernel_rfl)) (fun _ _ _ h => h) (Or.inr ⟨by rfl, rfl⟩) ?_ ?_
              rotate_left
              · simp only [Act.put, List.setIfInBounds_toArray, List.set_cons_zero, List.set_cons_succ, i64_w, i32_w]
                rfl
              refine pure_ (i := 15) (N := some 53) (v := undef) (a' := ?_) #[true, true, true, true, true, true, true, true, true, true, true, true, true, true, true, true, false, false] rfl rfl (any_of HT_.out (by kernel_rfl)) (fun _ _ _ h => h) (Or.inr ⟨by rfl, rfl⟩) ?_ ?_
              rotate_left
              · simp only [Act.put, List.setIfInBounds_toArray, List.set_cons_zero, List.set_cons_succ, i64_w, i32_w]
                rfl
              refine pure_ (i := 16) (N := some 54) (v := ?_) (a' := ?_) #[true, true, true, true, true, true, true, true, true, true, true, true, true, true, true, true, true, false] rfl rfl (any_of HT_.out (by kernel_rfl)) (fun _ _ _ h => h) (Or.inl ⟨by rfl, ?_⟩) ?_ ?_
              rotate_left
              · intro w'
                go_simp
                with_reducible rfl
              rotate_left
              · simp only [Act.put, List.setIfInBounds_toArray, List.set_cons_zero, List.set_cons_succ, i64_w, i32_w]
                rfl
              refine pure_ (i := 17) (N := some 2) (v := ?_) (a' := ?_) #[true, true, true, true, true, true, true, true, true, true, true, true, true, true, true, true, true, true] rfl rfl (any_of HT_.out (by kernel_rfl)) (fun _ _ _ h => h) (Or.inl ⟨by rfl, ?_⟩) ?_ ?_
              rotate_left
              · intro w'
                go_simp
                with_reducible rfl
              rotate_left
              · simp only [Act.put, List.setIfInBounds_toArray, List.set_cons_zero, List.set_cons_succ, i64_w, i32_w]
                rfl
              refine done_ (done_of HT_.out (by kernel_rfl)) ?_
              try go_wp2
              go_ret
              exact ⟨by first | rfl | (simp [errW_none, errW_some] <;> rfl) | (simp [*, errW_none, errW_some] <;> rfl), by repeat (first | (with_reducible first | exact HB.out | apply below_alloc | apply pw_below_drewN | apply below_drew1 | refine below_set ?_ GE102.out) | exact HB.out)⟩
          · rw [if_neg c11] at H
            have c11b0 : decide (0 ≤ a0_5) = false := decide_eq_false c11
            clear c11
            obtain rfl := Option.some.inj H
            have hcz21_0 : wc.cell? ⟨gb102, 0, none⟩ = some (.bool a0_0) := (blk_cell BK102.out 0).trans rfl
            have hcz21_1 : wc.cell? ⟨gb102, 1, none⟩ = some (.int .u8 a0_1) := (blk_cell BK102.out 1).trans rfl
            have hcz21_2 : wc.cell? ⟨gb102, 2, none⟩ = some (.int .u8 a0_2) := (blk_cell BK102.out 2).trans rfl
            have hcz21_3 : wc.cell? ⟨gb102, 3, none⟩ = some (.int .u8 a0_3) := (blk_cell BK102.out 3).trans rfl
            have hcz21_4 : wc.cell? ⟨gb102, 4, none⟩ = some (.int .u8 a0_4) := (blk_cell BK102.out 4).trans rfl
            have hcz21_5 : wc.cell? ⟨gb102, 5, none⟩ = some (.int .i64 a0_5) := (blk_cell BK102.out 5).trans rfl
            have hcz21_6 : wc.cell? ⟨gb102, 6, none⟩ = some (.string a0_6) := (blk_cell BK102.out 6).trans rfl
            have hcz21_7 : wc.cell? ⟨gb102, 7, none⟩ = some (.int .i64 a0_7) := (blk_cell BK102.out 7).trans rfl
            have hcz21_8 : wc.cell? ⟨gb102, 8, none⟩ = some (.int .i64 a0_8) := (blk_cell BK102.out 8).trans rfl
            have hfz21_0 := blk_frozen BK102.out 0
            have hfz21_1 := blk_frozen BK102.out 1
            have hfz21_2 := blk_frozen BK102.out 2
            have hfz21_3 := blk_frozen BK102.out 3
            have hfz21_4 := blk_frozen BK102.out 4
            have hfz21_5 := blk_frozen BK102.out 5
            have hfz21_6 := blk_frozen BK102.out 6
            have hfz21_7 := blk_frozen BK102.out 7
            have hfz21_8 := blk_frozen BK102.out 8
            try go_wp2
            have n0_ := Aside0.mk (blk_drew BK102.out)
            have n1_ := Aside0.mk (below_drew1 HB.out)
            clear BK102
            clear HB
            have BK102 := n0_
            have HB := n1_
            clear n0_ n1_
            refine start_ (n := 18) (S := fun w' => w'.cell? ⟨gb102, 0, none⟩ = some (.bool a0_0) ∧ w'.cell? ⟨gb102, 1, none⟩ = some (.int .u8 a0_1) ∧ w'.cell? ⟨gb102, 2, none⟩ = some (.int .u8 a0_2) ∧ w'.cell? ⟨gb102, 3, none⟩ = some (.int .u8 a0_3) ∧ w'.cell? ⟨gb102, 4, none⟩ = some (.int .u8 a0_4) ∧ w'.cell? ⟨gb102, 5, none⟩ = some (.int .i64 a0_5) ∧ w'.cell? ⟨gb102, 6, none⟩ = some (.string a0_6) ∧ w'.cell? ⟨gb102, 7, none⟩ = some (.int .i64 a0_7) ∧ w'.cell? ⟨gb102, 8, none⟩ = some (.int .i64 a0_8)) (ds := []) #[false, false, false, false, false, false, false, false, false, false, false, false, false, false, false, false, false, false] (by kernel_rfl) rfl rfl ⟨(blk_cell BK102.out 0).trans rfl, (blk_cell BK102.out 1).trans rfl, (blk_cell BK102.out 2).trans rfl, (blk_cell BK102.out 3).trans rfl, (blk_cell BK102.out 4).trans rfl, (blk_cell BK102.out 5).trans rfl, (blk_cell BK102.out 6).trans rfl, (blk_cell BK102.out 7).trans rfl, (blk_cell BK102.out 8).trans rfl⟩ (fun hHeld => ?_); refine with_tabW policy_right.tab5 policy_right.bits5 (fun HT_ HW_ => ?_)
            generalize wc.drew = w22 at BK102 HB hHeld ⊢
            refine pure_ (i := 0) (N := some 38) (v := ?_) (a' := ?_) #[true, false, false, false, false, false, false, false, false, false, false, false, false, false, false, false, false, false] rfl rfl (any_of HT_.out (by kernel_rfl)) (fun _ _ _ h => h) (Or.inl ⟨by rfl, ?_⟩) ?_ ?_
            rotate_left
            · intro w'
              go_simp
              with_reducible rfl
            rotate_left
            · simp only [Act.put, List.setIfInBounds_toArray, List.set_cons_zero, List.set_cons_succ, i64_w, i32_w]
              rfl
            refine take_ (i := 1) (N := some 39) (v := ?_) (a' := ?_) #[true, true, false, false, false, false, false, false, false, false, false, false, false, false, false, false, false, false] rfl rfl (take_ofW HT_.out HW_.out (by kernel_rfl)) (fun _ _ _ h => h) (Or.inl ⟨by rfl, ?_⟩) hHeld ?_ ?_
            rotate_left
            · rintro w' ⟨s0, s1, s2, s3, s4, s5, s6, s7, s8⟩
              go_simp
              with_reducible rfl
            rotate_left
            · simp only [Act.put, List.setIfInBounds_toArray, List.set_cons_zero, List.set_cons_succ, i64_w, i32_w]
              rfl
            refine pure_ (i := 2) (N := some 40) (v := ?_) (a' := ?_) #[true, true, true, false, false, false, false, false, false, false, false, false, false, false, false, false, false, false] rfl rfl (any_of HT_.out (by kernel_rfl)) (fun _ _ _ h => h) (Or.inl ⟨by rfl, ?_⟩) ?_ ?_
            rotate_left
            · intro w'
              go_simp
              with_reducible rfl
            rotate_left
            · simp only [Act.put, List.setIfInBounds_toArray, List.set_cons_zero, List.set_cons_succ, i64_w, i32_w]
              rfl
            refine pure_ (i := 3) (N := some 41) (v := ?_) (a' := ?_) #[true, true, true, true, false, false, false, false, false, false, false, false, false, false, false, false, false, false] rfl rfl (any_of HT_.out (by kernel_rfl)) (fun _ _ _ h => h) (Or.inl ⟨by rfl, ?_⟩) ?_ ?_
            rotate_left
            · intro w'
              go_simp
              with_reducible rfl
            rotate_left
            · simp only [Act.put, List.setIfInBounds_toArray, List.set_cons_zero, List.set_cons_succ, i64_w, i32_w]
              rfl
            refine pure_ (i := 4) (N := some 42) (v := undef) (a' := ?_) #[true, true, true, true, true, false, false, false, false, false, false, false, false, false, false, false, false, false] rfl rfl (any_of HT_.out (by kernel_rfl)) (fun _ _ _ h => h) (Or.inr ⟨by rfl, rfl⟩) ?_ ?_
            rotate_left
            · simp only [Act.put, List.setIfInBounds_toArray, List.set_cons_zero, List.set_cons_succ, i64_w, i32_w]
              rfl
            refine pure_ (i := 5) (N := some 43) (v := undef) (a' := ?_) #[true, true, true, true, true, true, false, false, false, false, false, false, false, false, false, false, false, false] rfl rfl (any_of HT_.out (by kernel_rfl)) (fun _ _ _ h => h) (Or.inr ⟨by rfl, rfl⟩) ?_ ?_
            rotate_left
            · simp only [Act.put, List.setIfInBounds_toArray, List.set_cons_zero, List.set_cons_succ, i64_w, i32_w]
              rfl
            refine pure_ (i := 6) (N := some 44) (v := undef) (a' := ?_) #[true, true, true, true, true, true, true, false, false, false, false, false, false, false, false, false, false, false] rfl rfl (any_of HT_.out (by kernel_rfl)) (fun _ _ _ h => h) (Or.inr ⟨by rfl, rfl⟩) ?_ ?_
            rotate_left
            · simp only [Act.put, List.setIfInBounds_toArray, List.set_cons_zero, List.set_cons_succ, i64_w, i32_w]
              rfl
            refine pure_ (i := 7) (N := some 45) (v := ?_) (a' := ?_) #[true, true, true, true, true, true, true, true, false, false, false, false, false, false, false, false, false, false] rfl rfl (any_of HT_.out (by kernel_rfl)) (fun _ _ _ h => h) (Or.inl ⟨by rfl, ?_⟩) ?_ ?_
            rotate_left
            · intro w'
              go_simp
              with_reducible rfl
            rotate_left
            · simp only [Act.put, List.setIfInBounds_toArray, List.set_cons_zero, List.set_cons_succ, i64_w, i32_w]
              rfl
            refine pure_ (i := 8) (N := some 46) (v := ?_) (a' := ?_) #[true, true, true, true, true, true, true, true, true, false, false, false, false, false, false, false, false, false] rfl rfl (any_of HT_.out (by kernel_rfl)) (fun _ _ _ h => h) (Or.inl ⟨by rfl, ?_⟩) ?_ ?_
            rotate_left
            · intro w'
              go_simp
              with_reducible rfl
            rotate_left
            · simp only [Act.put, List.setIfInBounds_toArray, List.set_cons_zero, List.set_cons_succ, i64_w, i32_w]
              rfl
            refine pure_ (i := 9) (N := some 47) (v := undef) (a' := ?_) #[true, true, true, true, true, true, true, true, true, true, false, false, false, false, false, false, false, false] rfl rfl (any_of HT_.out (by kernel_rfl)) (fun _ _ _ h => h) (Or.inr ⟨by rfl, rfl⟩) ?_ ?_
            rotate_left
            · simp only [Act.put, List.setIfInBounds_toArray, List.set_cons_zero, List.set_cons_succ, i64_w, i32_w]
              rfl
            refine pure_ (i := 10) (N := some 48) (v := undef) (a' := ?_) #[true, true, true, true, true, true, true, true, true, true, true, false, false, false, false, false, false, false] rfl rfl (any_of HT_.out (by kernel_rfl)) (fun _ _ _ h => h) (Or.inr ⟨by rfl, rfl⟩) ?_ ?_
            rotate_left
            · simp only [Act.put, List.setIfInBounds_toArray, List.set_cons_zero, List.set_cons_succ, i64_w, i32_w]
              rfl
            refine pure_ (i := 11) (N := some 49) (v := undef) (a' := ?_) #[true, true, true, true, true, true, true, true, true, true, true, true, false, false, false, false, false, false] rfl rfl (any_of HT_.out (by kernel_rfl)) (fun _ _ _ h => h) (Or.inr ⟨by rfl, rfl⟩) ?_ ?_
            rotate_left
            · simp only [Act.put, List.setIfInBounds_toArray, List.set_cons_zero, List.set_cons_succ, i64_w, i32_w]
              rfl
            refine pure_ (i := 12) (N := some 50) (v := undef) (a' := ?_) #[true, true, true, true, true, true, true, true, true, true, true, true, true, false, false, false, false, false] rfl rfl (any_of HT_.out (by kernel_rfl)) (fun _ _ _ h => h) (Or.inr ⟨by rfl, rfl⟩) ?_ ?_
            rotate_left
            · simp only [Act.put, List.setIfInBounds_toArray, List.set_cons_zero, List.set_cons_succ, i64_w, i32_w]
              rfl
            refine pure_ (i := 13) (N := some 51) (v := undef) (a' := ?_) #[true, true, true, true, true, true, true, true, true, true, true, true, true, true, false, false, false, false] rfl rfl (any_of HT_.out (by kernel_rfl)) (fun _ _ _ h => h) (Or.inr ⟨by rfl, rfl⟩) ?_ ?_
            rotate_left
            · simp only [Act.put, List.setIfInBounds_toArray, List.set_cons_zero, List.set_cons_succ, i64_w, i32_w]
              rfl
            refine pure_ (i := 14) (N := some 52) (v := undef) (a' := ?_) #[true, true, true, true, true, true, true, true, true, true, true, true, true, true, true, false, false, false] rfl rfl (any_of HT_.out (by kernel_rfl)) (fun _ _ _ h => h) (Or.inr ⟨by rfl, rfl⟩) ?_ ?_
            rotate_left
            · simp only [Act.put, List.setIfInBounds_toArray, List.set_cons_zero, List.set_cons_succ, i64_w, i32_w]
              rfl
            refine pure_ (i := 15) (N := some 53) (v := undef) (a' := ?_) #[true, true, true, true, true, true, true, true, true, true, true, true, true, true, true, true, false, false] rfl rfl (any_of HT_.out (by kernel_rfl)) (fun _ _ _ h => h) (Or.inr ⟨by rfl, rfl⟩) ?_ ?_
            rotate_left
            · simp only [Act.put, List.setIfInBounds_toArray, List.set_cons_zero, List.set_cons_succ, i64_w, i32_w]
              rfl
            refine pure_ (i := 16) (N := some 54) (v := ?_) (a' := ?_) #[true, true, true, true, true, true, true, true, true, true, true, true, true, true, true, true, true, false] rfl rfl (any_of HT_.out (by kernel_rfl)) (fun _ _ _ h => h) (Or.inl ⟨by rfl, ?_⟩) ?_ ?_
            rotate_left
            · intro w'
              go_simp
              with_reducible rfl
            rotate_left
            · simp only [Act.put, List.setIfInBounds_toArray, List.set_cons_zero, List.set_cons_succ, i64_w, i32_w]
              rfl
            refine pure_ (i := 17) (N := some 2) (v := ?_) (a' := ?_) #[true, true, true, true, true, true, true, true, true, true, true, true, true, true, true, true, true, true] rfl rfl (any_of HT_.out (by kernel_rfl)) (fun _ _ _ h => h) (Or.inl ⟨by rfl, ?_⟩) ?_ ?_
            rotate_left
            · intro w'
              go_simp
              with_reducible rfl
            rotate_left
            · simp only [Act.put, List.setIfInBounds_toArray, List.set_cons_zero, List.set_cons_succ, i64_w, i32_w]
              rfl
            refine done_ (done_of HT_.out (by kernel_rfl)) ?_
            try go_wp2
            go_ret
            exact ⟨by first | rfl | (simp [errW_none, errW_some] <;> rfl) | (simp [*, errW_none, errW_some] <;> rfl), by repeat (first | (with_reducible first | exact HB.out | apply below_alloc | apply pw_below_drewN | apply below_drew1 | refine below_set ?_ GE102.out) | exact HB.out)⟩
        · rw [if_neg c10] at H
          have c10b0 : (a0_6.toList == ([] : List UInt8)) = false := beq_eq_false_iff_ne.mpr c10
          have c10b1 : (a0_6.toList != ([] : List UInt8)) = true := bne_iff_ne.mpr c10
          replace H := Option.bind_eq_some_iff.mp H
          obtain ⟨t104, A230, H⟩ := H
          replace H : (if t104 = true then (if (a0_1 == 0 && (a0_2 == 0 && (a0_3 == 0 && (a0_4 == 0)))) = true then (some (a0_5 == 0)) else (some false)) else (some false)) = some r := H
          have A23 := Aside0.mk A230
          clear A230
          by_cases c24 : t104 = true
          · subst c24
            have H1 : (if (a0_1 == 0 && (a0_2 == 0 && (a0_3 == 0 && (a0_4 == 0)))) = true then (some (a0_5 == 0)) else (some false)) = some r := by rw [if_pos rfl] at H; exact H
            clear H
            have H := H1
            clear H1
            by_cases c25 : (a0_1 == 0 && (a0_2 == 0 && (a0_3 == 0 && (a0_4 == 0)))) = true
            · rw [if_pos c25] at H
              have c25b0 : (a0_1 == 0 && (a0_2 == 0 && (a0_3 == 0 && (a0_4 == 0)))) = true := c25
              (try (have c25b1 : decide (a0_1 = 0 && (a0_2 == 0 && (a0_3 == 0 && (a0_4 == 0)))) = true := by simpa using c25))
              (try (have c25b2 : (a0_1 == 0 && (a0_2 == 0 && (a0_3 == 0 && (a0_4 == 0)))) = true := by simpa using c25))
              clear c25
              obtain rfl := Option.some.inj H
              have hcz26_0 : wc.cell? ⟨gb102, 0, none⟩ = some (.bool a0_0) := (blk_cell BK102.out 0).trans rfl
              have hcz26_1 : wc.cell? ⟨gb102, 1, none⟩ = some (.int .u8 a0_1) := (blk_cell BK102.out 1).trans rfl
              have hcz26_2 : wc.cell? ⟨gb102, 2, none⟩ = some (.int .u8 a0_2) := (blk_cell BK102.out 2).trans rfl
              have hcz26_3 : wc.cell? ⟨gb102, 3, none⟩ = some (.int .u8 a0_3) := (blk_cell BK102.out 3).trans rfl
              have hcz26_4 : wc.cell? ⟨gb102, 4, none⟩ = some (.int .u8 a0_4) := (blk_cell BK102.out 4).trans rfl
              have hcz26_5 : wc.cell? ⟨gb102, 5, none⟩ = some (.int .i64 a0_5) := (blk_cell BK102.out 5).trans rfl
              have hcz26_6 : wc.cell? ⟨gb102, 6, none⟩ = some (.string a0_6) := (blk_cell BK102.out 6).trans rfl
              have hcz26_7 : wc.cell? ⟨gb102, 7, none⟩ = some (.int .i64 a0_7) := (blk_cell BK102.out 7).trans rfl
              have hcz26_8 : wc.cell? ⟨gb102, 8, none⟩ = some (.int .i64 a0_8) := (blk_cell BK102.out 8).trans rfl
              have hfz26_0 := blk_frozen BK102.out 0
              have hfz26_1 := blk_frozen BK102.out 1
              have hfz26_2 := blk_frozen BK102.out 2
              have hfz26_3 := blk_frozen BK102.out 3
              have hfz26_4 := blk_frozen BK102.out 4
              have hfz26_5 := blk_frozen BK102.out 5
              have hfz26_6 := blk_frozen BK102.out 6
              have hfz26_7 := blk_frozen BK102.out 7
              have hfz26_8 := blk_frozen BK102.out 8
              go_wp2_with (first | ((with_reducible refine gate_callee (f := 29) rfl ?_); refine goesL_ (some 26) rfl rfl Tryd.func29 (by kernel_rfl) rfl #[.agg #[.int .u8 0, .int .u8 0, .int .u8 0, .int .u8 0, .string a0_6]] rfl (by (try simp only [List.map_toArray, List.map_cons, List.map_nil]); first | done | rfl | (simp only [List.length_drop, List.length_take]; rfl)) ?_; (with_reducible refine (E.hCheck.calls 0 0 0 0 a0_6 true _ ?side1 A23.out).mono ?_); (case side1 => exact StdW.below HS_.out (by repeat (first | (with_reducible first | exact HB.out | apply below_alloc | apply pw_below_drewN | apply below_drew1 | refine below_set ?_ GE102.out) | exact HB.out))); rintro e w27 ⟨rfl, hb⟩; refine ⟨_, rfl, ?_⟩; have n0_ := Aside0.mk (blk_below (g := gb102) (o := .cells #[.bool a0_0, .int .u8 a0_1, .int .u8 a0_2, .int .u8 a0_3, .int .u8 a0_4, .int .i64 a0_5, .string a0_6, .int .i64 a0_7, .int .i64 a0_8] 33 (0, 0)) (by (with_reducible repeat (first | refine blk_drewN ?_ _ | refine blk_drew ?_ | refine blk_alloc ?_ _)); exact BK102.out) hb); have n1_ := Aside0.mk (below_step (by repeat (first | (with_reducible first | exact HB.out | apply below_alloc | apply pw_below_drewN | apply below_drew1 | refine below_set ?_ GE102.out) | exact HB.out)) hb); clear BK102; clear HB; have BK102 := n0_; have HB := n1_; clear n0_ n1_; (try clear hb); (try clear hb2); (try clear hk); (try clear hi); have hcz28_0 : w27.cell? ⟨gb102, 0, none⟩ = some (.bool a0_0) := (blk_cell BK102.out 0).trans rfl; have hcz28_1 : w27.cell? ⟨gb102, 1, none⟩ = some (.int .u8 a0_1) := (blk_cell BK102.out 1).trans rfl; have hcz28_2 : w27.cell? ⟨gb102, 2, none⟩ = some (.int .u8 a0_2) := (blk_cell BK102.out 2).trans rfl; have hcz28_3 : w27.cell? ⟨gb102, 3, none⟩ = some (.int .u8 a0_3) := (blk_cell BK102.out 3).trans rfl; have hcz28_4 : w27.cell? ⟨gb102, 4, none⟩ = some (.int .u8 a0_4) := (blk_cell BK102.out 4).trans rfl; have hcz28_5 : w27.cell? ⟨gb102, 5, none⟩ = some (.int .i64 a0_5) := (blk_cell BK102.out 5).trans rfl; have hcz28_6 : w27.cell? ⟨gb102, 6, none⟩ = some (.string a0_6) := (blk_cell BK102.out 6).trans rfl; have hcz28_7 : w27.cell? ⟨gb102, 7, none⟩ = some (.int .i64 a0_7) := (blk_cell BK102.out 7).trans rfl; have hcz28_8 : w27.cell? ⟨gb102, 8, none⟩ = some (.int .i64 a0_8) := (blk_cell BK102.out 8).trans rfl; have hfz28_0 := blk_frozen BK102.out 0; have hfz28_1 := blk_frozen BK102.out 1; have hfz28_2 := blk_frozen BK102.out 2; have hfz28_3 := blk_frozen BK102.out 3; have hfz28_4 := blk_frozen BK102.out 4; have hfz28_5 := blk_frozen BK102.out 5; have hfz28_6 := blk_frozen BK102.out 6; have hfz28_7 := blk_frozen BK102.out 7; have hfz28_8 := blk_frozen BK102.out 8))
              go_ret
              exact ⟨by first | rfl | (simp [errW_none, errW_some] <;> rfl) | (simp [*, errW_none, errW_some] <;> rfl), by repeat (first | (with_reducible first | exact HB.out | apply below_alloc | apply pw_below_drewN | apply below_drew1 | refine below_set ?_ GE102.out) | exact HB.out)⟩
            · rw [if_neg c25] at H
              have c25b0 : (a0_1 == 0 && (a0_2 == 0 && (a0_3 == 0 && (a0_4 == 0)))) = false := by simpa using c25
              (try (have c25b1 : decide (a0_1 = 0 && (a0_2 == 0 && (a0_3 == 0 && (a0_4 == 0)))) = false := by simpa using c25))
              (try (have c25b2 : (a0_1 == 0 && (a0_2 == 0 && (a0_3 == 0 && (a0_4 == 0)))) = false := by simpa using c25))
              (try (have c25b3 : ¬ (a0_1 = 0 && (a0_2 == 0 && (a0_3 == 0 && (a0_4 == 0)))) := by simpa using c25))
              clear c25
              obtain rfl := Option.some.inj H
              have hcz29_0 : wc.cell? ⟨gb102, 0, none⟩ = some (.bool a0_0) := (blk_cell BK102.out 0).trans rfl
              have hcz29_1 : wc.cell? ⟨gb102, 1, none⟩ = some (.int .u8 a0_1) := (blk_cell BK102.out 1).trans rfl
              have hcz29_2 : wc.cell? ⟨gb102, 2, none⟩ = some (.int .u8 a0_2) := (blk_cell BK102.out 2).trans rfl
              have hcz29_3 : wc.cell? ⟨gb102, 3, none⟩ = some (.int .u8 a0_3) := (blk_cell BK102.out 3).trans rfl
              have hcz29_4 : wc.cell? ⟨gb102, 4, none⟩ = some (.int .u8 a0_4) := (blk_cell BK102.out 4).trans rfl
              have hcz29_5 : wc.cell? ⟨gb102, 5, none⟩ = some (.int .i64 a0_5) := (blk_cell BK102.out 5).trans rfl
              have hcz29_6 : wc.cell? ⟨gb102, 6, none⟩ = some (.string a0_6) := (blk_cell BK102.out 6).trans rfl
              have hcz29_7 : wc.cell? ⟨gb102, 7, none⟩ = some (.int .i64 a0_7) := (blk_cell BK102.out 7).trans rfl
              have hcz29_8 : wc.cell? ⟨gb102, 8, none⟩ = some (.int .i64 a0_8) := (blk_cell BK102.out 8).trans rfl
              have hfz29_0 := blk_frozen BK102.out 0
              have hfz29_1 := blk_frozen BK102.out 1
              have hfz29_2 := blk_frozen BK102.out 2
              have hfz29_3 := blk_frozen BK102.out 3
              have hfz29_4 := blk_frozen BK102.out 4
              have hfz29_5 := blk_frozen BK102.out 5
              have hfz29_6 := blk_frozen BK102.out 6
              have hfz29_7 := blk_frozen BK102.out 7
              have hfz29_8 := blk_frozen BK102.out 8
              go_wp2_with (first | ((with_reducible refine gate_callee (f := 29) rfl ?_); refine goesL_ (some 26) rfl rfl Tryd.func29 (by kernel_rfl) rfl #[.agg #[.int .u8 0, .int .u8 0, .int .u8 0, .int .u8 0, .string a0_6]] rfl (by (try simp only [List.map_toArray, List.map_cons, List.map_nil]); first | done | rfl | (simp only [List.length_drop, List.length_take]; rfl)) ?_; (with_reducible refine (E.hCheck.calls 0 0 0 0 a0_6 true _ ?side1 A23.out).mono ?_); (case side1 => exact StdW.below HS_.out (by repeat (first | (with_reducible first | exact HB.out | apply below_alloc | apply pw_below_drewN | apply below_drew1 | refine below_set ?_ GE102.out) | exact HB.out))); rintro e w30 ⟨rfl, hb⟩; refine ⟨_, rfl, ?_⟩; have n0_ := Aside0.mk (blk_below (g := gb102) (o := .cells #[.bool a0_0, .int .u8 a0_1, .int .u8 a0_2, .int .u8 a0_3, .int .u8 a0_4, .int .i64 a0_5, .string a0_6, .int .i64 a0_7, .int .i64 a0_8] 33 (0, 0)) (by (with_reducible repeat (first | refine blk_drewN ?_ _ | refine blk_drew ?_ | refine blk_alloc ?_ _)); exact BK102.out) hb); have n1_ := Aside0.mk (below_step (by repeat (first | (with_reducible first | exact HB.out | apply below_alloc | apply pw_below_drewN | apply below_drew1 | refine below_set ?_ GE102.out) | exact HB.out)) hb); clear BK102; clear HB; have BK102 := n0_; have HB := n1_; clear n0_ n1_; (try clear hb); (try clear hb2); (try clear hk); (try clear hi); have hcz31_0 : w30.cell? ⟨gb102, 0, none⟩ = some (.bool a0_0) := (blk_cell BK102.out 0).trans rfl; have hcz31_1 : w30.cell? ⟨gb102, 1, none⟩ = some (.int .u8 a0_1) := (blk_cell BK102.out 1).trans rfl; have hcz31_2 : w30.cell? ⟨gb102, 2, none⟩ = some (.int .u8 a0_2) := (blk_cell BK102.out 2).trans rfl; have hcz31_3 : w30.cell? ⟨gb102, 3, none⟩ = some (.int .u8 a0_3) := (blk_cell BK102.out 3).trans rfl; have hcz31_4 : w30.cell? ⟨gb102, 4, none⟩ = some (.int .u8 a0_4) := (blk_cell BK102.out 4).trans rfl; have hcz31_5 : w30.cell? ⟨gb102, 5, none⟩ = some (.int .i64 a0_5) := (blk_cell BK102.out 5).trans rfl; have hcz31_6 : w30.cell? ⟨gb102, 6, none⟩ = some (.string a0_6) := (blk_cell BK102.out 6).trans rfl; have hcz31_7 : w30.cell? ⟨gb102, 7, none⟩ = some (.int .i64 a0_7) := (blk_cell BK102.out 7).trans rfl; have hcz31_8 : w30.cell? ⟨gb102, 8, none⟩ = some (.int .i64 a0_8) := (blk_cell BK102.out 8).trans rfl; have hfz31_0 := blk_frozen BK102.out 0; have hfz31_1 := blk_frozen BK102.out 1; have hfz31_2 := blk_frozen BK102.out 2; have hfz31_3 := blk_frozen BK102.out 3; have hfz31_4 := blk_frozen BK102.out 4; have hfz31_5 := blk_frozen BK102.out 5; have hfz31_6 := blk_frozen BK102.out 6; have hfz31_7 := blk_frozen BK102.out 7; have hfz31_8 := blk_frozen BK102.out 8))
              go_ret
              exact ⟨by first | rfl | (simp [errW_none, errW_some] <;> rfl) | (simp [*, errW_none, errW_some] <;> rfl), by repeat (first | (with_reducible first | exact HB.out | apply below_alloc | apply pw_below_drewN | apply below_drew1 | refine below_set ?_ GE102.out) | exact HB.out)⟩
          · replace c24 := Bool.eq_false_iff.mpr c24
            subst c24
            have H1 : (some false) = some r := by rw [if_neg (show ¬ (false = true) by decide)] at H; exact H
            clear H
            have H := H1
            clear H1
            obtain rfl := Option.some.inj H
            have hcz32_0 : wc.cell? ⟨gb102, 0, none⟩ = some (.bool a0_0) := (blk_cell BK102.out 0).trans rfl
            have hcz32_1 : wc.cell? ⟨gb102, 1, none⟩ = some (.int .u8 a0_1) := (blk_cell BK102.out 1).trans rfl
            have hcz32_2 : wc.cell? ⟨gb102, 2, none⟩ = some (.int .u8 a0_2) := (blk_cell BK102.out 2).trans rfl
            have hcz32_3 : wc.cell? ⟨gb102, 3, none⟩ = some (.int .u8 a0_3) := (blk_cell BK102.out 3).trans rfl
            have hcz32_4 : wc.cell? ⟨gb102, 4, none⟩ = some (.int .u8 a0_4) := (blk_cell BK102.out 4).trans rfl
            have hcz32_5 : wc.cell? ⟨gb102, 5, none⟩ = some (.int .i64 a0_5) := (blk_cell BK102.out 5).trans rfl
            have hcz32_6 : wc.cell? ⟨gb102, 6, none⟩ = some (.string a0_6) := (blk_cell BK102.out 6).trans rfl
            have hcz32_7 : wc.cell? ⟨gb102, 7, none⟩ = some (.int .i64 a0_7) := (blk_cell BK102.out 7).trans rfl
            have hcz32_8 : wc.cell? ⟨gb102, 8, none⟩ = some (.int .i64 a0_8) := (blk_cell BK102.out 8).trans rfl
            have hfz32_0 := blk_frozen BK102.out 0
            have hfz32_1 := blk_frozen BK102.out 1
            have hfz32_2 := blk_frozen BK102.out 2
            have hfz32_3 := blk_frozen BK102.out 3
            have hfz32_4 := blk_frozen BK102.out 4
            have hfz32_5 := blk_frozen BK102.out 5
            have hfz32_6 := blk_frozen BK102.out 6
            have hfz32_7 := blk_frozen BK102.out 7
            have hfz32_8 := blk_frozen BK102.out 8
            go_wp2_with (first | ((with_reducible refine gate_callee (f := 29) rfl ?_); refine goesL_ (some 26) rfl rfl Tryd.func29 (by kernel_rfl) rfl #[.agg #[.int .u8 0, .int .u8 0, .int .u8 0, .int .u8 0, .string a0_6]] rfl (by (try simp only [List.map_toArray, List.map_cons, List.map_nil]); first | done | rfl | (simp only [List.length_drop, List.length_take]; rfl)) ?_; (with_reducible refine (E.hCheck.calls 0 0 0 0 a0_6 false _ ?side1 A23.out).mono ?_); (case side1 => exact StdW.below HS_.out (by repeat (first | (with_reducible first | exact HB.out | apply below_alloc | apply pw_below_drewN | apply below_drew1 | refine below_set ?_ GE102.out) | exact HB.out))); rintro e w33 ⟨rfl, hb⟩; refine ⟨_, rfl, ?_⟩; have n0_ := Aside0.mk (blk_below (g := gb102) (o := .cells #[.bool a0_0, .int .u8 a0_1, .int .u8 a0_2, .int .u8 a0_3, .int .u8 a0_4, .int .i64 a0_5, .string a0_6, .int .i64 a0_7, .int .i64 a0_8] 33 (0, 0)) (by (with_reducible repeat (first | refine blk_drewN ?_ _ | refine blk_drew ?_ | refine blk_alloc ?_ _)); exact BK102.out) hb); have n1_ := Aside0.mk (below_step (by repeat (first | (with_reducible first | exact HB.out | apply below_alloc | apply pw_below_drewN | apply below_drew1 | refine below_set ?_ GE102.out) | exact HB.out)) hb); clear BK102; clear HB; have BK102 := n0_; have HB := n1_; clear n0_ n1_; (try clear hb); (try clear hb2); (try clear hk); (try clear hi)))
            go_ret
            exact ⟨by first | rfl | (simp [errW_none, errW_some] <;> rfl) | (simp [*, errW_none, errW_some] <;> rfl), by repeat (first | (with_reducible first | exact HB.out | apply below_alloc | apply pw_below_drewN | apply below_drew1 | refine below_set ?_ GE102.out) | exact HB.out)⟩

end Go.Proofs.YteondnhokgmakaaDoor.XC
