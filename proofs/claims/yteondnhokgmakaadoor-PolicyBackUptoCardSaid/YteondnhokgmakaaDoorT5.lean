/- What the cards of this seat rest on: the walks and plain laws, part 5. -/
import Derived.Test.YteondnhokgmakaaDoorT3
import Derived.Test.YteondnhokgmakaaDoorT4
import Derived.Test.YteondnhokgmakaaDoorProg
import Derived.Below
import Derived.Deep.Draws
import Derived.Deep.AppendLies
import Derived.Maps.AppendAt
import Derived.OwnWalk
import Derived.Laws.BytesArg
import Derived.Laws.MakeOwn
import Derived.Laws.OwnMore
import Derived.Deep.OwnRows
import Derived.Tactics
import Derived.Lib.ConvBytes
import Derived.Laws.Slices
import Derived.WalkKit
import Derived.KernelRfl
import Derived.RowKit3
import Derived.Deep.LoopGhost
import Derived.Deep.QuietTactic
import Derived.BigQuiet
import Derived.WideLaws
import Derived.Deep.DeepCutAuto
import Derived.Deep.CutBlock
import Derived.Deep.RegionHeld3
import Derived.Laws.Rows
import Derived.Lib.AppendStr
import Derived.ArgAppend
import Derived.Laws.IdiomCopy
import Derived.OrdersHeld
import Derived.Laws.BitsLemmas
import Derived.RowKit
import Derived.Test.YteondnhokgmakaaDoorT1


namespace Go.Proofs.YteondnhokgmakaaDoor.E
open Go.RowKit Go.Proofs.YteondnhokgmakaaDoorW.PrintWords Go.Proofs.YteondnhokgmakaaDoorW.PrintLast
set_option linter.unusedVariables false
set_option linter.unusedSimpArgs false
set_option maxRecDepth 100000 in
set_option maxHeartbeats 40000000 in
theorem pp_110 (s w0 w1s w2s lowS highS netS nS : ByteArray) (al okA rb : Bool) (lo : Int) (hi2 : Int) (okB ne : Bool) (bi : Int) (okN : Bool) (l : List ByteArray) (hs1 : s.size ≤ 285) (hs : s.size < 4294967281)
    (HSP : ∀ W, StdW W → Calls Tryd.prog 22 #[.string s, .string ⟨#[32]⟩] W fun e w' => e = .returned (.slice (some ⟨W.heap.size, 0, none⟩) l.length l.length) ∧ (∀ j, (h : j < l.length) → w'.cell? ⟨W.heap.size, j, none⟩ = some (.string l[j])) ∧ W.heap.size < w'.heap.size ∧ Below W.heap.size W w')
    (h0 : 3 = l.length)
    (hw0 : l[0]? = some w0)
    (hw1 : l[1]? = some w1s)
    (hw2 : l[2]? = some w2s)
    (hal : (w0.toList == [97, 108, 108, 111, 119]) = al)
    (hde : al = false → (w0.toList == [100, 101, 110, 121]) = true)
    (HC2 : ∀ W, StdW W → Calls Tryd.prog 23 #[.string w2s, .string ⟨#[45]⟩] W fun e w' => e = .returned (.tuple #[.string lowS, .string highS, .bool true]) ∧ Below W.heap.size W w')
    (HN1 : ∀ W, StdW W → Calls Tryd.prog 24 #[.string lowS] W fun e w' => e = .returned (.tuple #[.int .i64 lo, .bool okA]) ∧ Below W.heap.size W w')
    (HC1 : ∀ W, StdW W → Calls Tryd.prog 23 #[.string w1s, .string ⟨#[47]⟩] W fun e w' => e = .returned (.tuple #[.string netS, .string nS, .bool true]) ∧ Below W.heap.size W w')
    (HN2 : ∀ W, StdW W → Calls Tryd.prog 24 #[.string highS] W fun e w' => e = .returned (.tuple #[.int .i64 hi2, .bool okB]) ∧ Below W.heap.size W w')
    (hnel : (hi2 != lo) = ne)
    (HN3 : ∀ W, StdW W → Calls Tryd.prog 24 #[.string nS] W fun e w' => e = .returned (.tuple #[.int .i64 bi, .bool okN]) ∧ Below W.heap.size W w')
    (HPA : ∀ W, StdW W → Calls Tryd.prog 25 #[.string netS] W fun e w' => (∃ b, e = .returned (.tuple #[.agg #[.int .u8 0, .int .u8 0, .int .u8 0, .int .u8 0], .iface 91 (.pointer (some ⟨b, 0, none⟩))])) ∧ Below W.heap.size W w')
    (HRT : ∀ W, StdW W → Calls Tryd.prog 18 #[.agg (rc al 0 0 0 0 bi ⟨#[]⟩ lo hi2)] W fun e w' => e = .returned (.bool rb) ∧ Below W.heap.size W w')
    (w : World) (hS : StdW w) :
    Calls Tryd.prog 11 #[.string s] w fun e w' => e = .returned (ppOut (okA && ((okB && ne) && (false && rb))) al 0 0 0 0 bi ⟨#[]⟩ lo hi2) ∧ Below w.heap.size w w' := by
  have HS := Lib.hid hS
  clear hS
  have hs1' : (s.size : Int) ≤ 285 := by omega
  have hl3 : ((l.length : Int) != 3) = false := by rw [← h0]; rfl
  have hl0 : (0 : Int) < (l.length : Int) := by omega
  have hl1 : (1 : Int) < (l.length : Int) := by omega
  have hl2 : (2 : Int) < (l.length : Int) := by omega
  have XHSP := Lib.hid HSP
  have XHC2 := Lib.hid HC2
  have XHN1 := Lib.hid HN1
  have XHC1 := Lib.hid HC1
  have XHRT := Lib.hid HRT
  have Xhw0 := Lib.hid hw0
  have Xhw1 := Lib.hid hw1
  have Xhw2 := Lib.hid hw2
  have XHN2 := Lib.hid HN2
  have XHN3 := Lib.hid HN3
  have XHPA := Lib.hid HPA
  clear HSP HC2 HN1 HC1 HRT hw0 hw1 hw2 HN2 HN3 HPA
  have Xh0 := Lib.hid h0
  clear h0 hs1
  cases al
  · have hde' := hde rfl
    clear hde
    cases okA
    · go_enter Tryd.func11, Tryd.ntmps11
      go_wp2_with (first | (go_at_call 22; refine (XHSP.out _ (StdW.below HS.out (below_alloc (Below.refl _ _) _))).mono ?_; rintro e x1 ⟨rfl, hc, hlt1, hb1⟩; have HB1 := Lib.hid (below_then (below_alloc (Below.refl w.heap.size w) _) (below_alloc (Below.refl w.heap.size w) _).size hb1); have hR1 : w.heap.size < x1.heap.size := (by have := hb1.size; simp at this; omega); have hRn1 : ¬ x1.heap.size = w.heap.size := (by omega); have hRn2 : ¬ w.heap.size = x1.heap.size := (by omega); have HZ1 := Lib.hid ((Blk.new w (rc false 0 0 0 0 0 ⟨#[]⟩ 0 0) _).below hb1); have HWD1 : Hid (∀ j, (h : j < l.length) → x1.cell? ⟨w.heap.size + 1, j, none⟩ = some (.string l[j])) := Lib.hid (fun j h => by have := hc j h; rw [World.size_alloc] at this; exact this); have wd0 : x1.cell? ⟨w.heap.size + 1, 0, none⟩ = some (.string w0) := (HWD1.out 0 (by have := Xh0.out; omega)).trans (by rw [(List.getElem?_eq_some_iff.1 Xhw0.out).2]); have wd2 : x1.cell? ⟨w.heap.size + 1, 2, none⟩ = some (.string w2s) := (HWD1.out 2 (by have := Xh0.out; omega)).trans (by rw [(List.getElem?_eq_some_iff.1 Xhw2.out).2]); have hwl : w.heap.size + 1 < x1.heap.size := (by simpa using hlt1); clear hc hlt1 hb1) | (go_at_call_of 23 (Value.string w2s); refine (XHC2.out _ (StdW.below HS.out (below_alloc HB1.out _))).mono ?_; rintro e x2 ⟨rfl, hb2⟩; have HB2 := Lib.hid (below_then (below_alloc HB1.out _) (below_alloc HB1.out _).size hb2); have HZ2 := Lib.hid ((HZ1.out.old _).below hb2); have HR2 : Hid (Blk x2 x1.heap.size (rc false 0 0 0 0 0 ⟨#[]⟩ 0 0) _) := Lib.hid ((Blk.new x1 (rc false 0 0 0 0 0 ⟨#[]⟩ 0 0) _).below hb2); have HWD2 : Hid (∀ j, (h : j < l.length) → x2.cell? ⟨w.heap.size + 1, j, none⟩ = some (.string l[j])) := Lib.hid (fun j h => pw_cell_below hb2 (pw_cell_below (below_alloc (Below.refl _ _) _) (HWD1.out j h))); clear hb2 wd0 wd2) | (go_at_call_of 24 (Value.string lowS); refine (XHN1.out _ (StdW.below HS.out HB2.out)).mono ?_; rintro e x3 ⟨rfl, hb3⟩; have HB3 := Lib.hid (below_then HB2.out HB2.out.size hb3); have HZ3 := Lib.hid (HZ2.out.below hb3); have HR3 := Lib.hid (HR2.out.below hb3); have HWD3 : Hid (∀ j, (h : j < l.length) → x3.cell? ⟨w.heap.size + 1, j, none⟩ = some (.string l[j])) := Lib.hid (fun j h => pw_cell_below hb3 (HWD2.out j h)); have wd1 : x3.cell? ⟨w.heap.size + 1, 1, none⟩ = some (.string w1s) := (HWD3.out 1 (by have := Xh0.out; omega)).trans (by rw [(List.getElem?_eq_some_iff.1 Xhw1.out).2]); obtain ⟨k0, k1, k2, k3, k4, k5, k6, k7, k8⟩ := HR3.out.nine; obtain ⟨f0, f1, f2, f3, f4, f5, f6, f7, f8⟩ := HR3.out.frees; clear hb3) | (go_at_call_of 24 (Value.string highS); refine (XHN2.out _ (StdW.below HS.out ((HB3.out.setCell (p := ⟨x1.heap.size, 7, none⟩) (Nat.le_of_lt hR1) (.int .i64 lo)).setCell (p := ⟨x1.heap.size, 8, none⟩) (Nat.le_of_lt hR1) (.int .i64 lo)))).mono ?_; rintro e x4 ⟨rfl, hb4⟩; have HB4 := Lib.hid (below_then ((HB3.out.setCell (p := ⟨x1.heap.size, 7, none⟩) (Nat.le_of_lt hR1) (.int .i64 lo)).setCell (p := ⟨x1.heap.size, 8, none⟩) (Nat.le_of_lt hR1) (.int .i64 lo)) ((HB3.out.setCell (p := ⟨x1.heap.size, 7, none⟩) (Nat.le_of_lt hR1) (.int .i64 lo)).setCell (p := ⟨x1.heap.size, 8, none⟩) (Nat.le_of_lt hR1) (.int .i64 lo)).size hb4); have HZ4 := Lib.hid (((HZ3.out.other ⟨x1.heap.size, 7, none⟩ hRn2 (.int .i64 lo)).other ⟨x1.heap.size, 8, none⟩ hRn2 (.int .i64 lo)).below hb4); have HR4 : Hid (Blk x4 x1.heap.size (rc false 0 0 0 0 0 ⟨#[]⟩ lo lo) _) := Lib.hid (((HR3.out.set 7 (.int .i64 lo)).set 8 (.int .i64 lo)).below hb4); have HWD4 : Hid (∀ j, (h : j < l.length) → x4.cell? ⟨w.heap.size + 1, j, none⟩ = some (.string l[j])) := Lib.hid (fun j h => pw_cell_below hb4 (by rw [World.cell?_setCell_other _ _ _ _ (by intro e; injection e with e; omega), World.cell?_setCell_other _ _ _ _ (by intro e; injection e with e; omega)]; exact HWD3.out j h)); clear wd1; have wd1 : x4.cell? ⟨w.heap.size + 1, 1, none⟩ = some (.string w1s) := (HWD4.out 1 (by have := Xh0.out; omega)).trans (by rw [(List.getElem?_eq_some_iff.1 Xhw1.out).2]); clear k0 k1 k2 k3 k4 k5 k6 k7 k8 f0 f1 f2 f3 f4 f5 f6 f7 f8; obtain ⟨k0, k1, k2, k3, k4, k5, k6, k7, k8⟩ := HR4.out.nine; obtain ⟨f0, f1, f2, f3, f4, f5, f6, f7, f8⟩ := HR4.out.frees; clear hb4) | (go_at_call_of 23 (Value.string w1s); refine (XHC1.out _ (StdW.below HS.out (HB4.out.setCell (p := ⟨x1.heap.size, 8, none⟩) (Nat.le_of_lt hR1) (.int .i64 hi2)))).mono ?_; rintro e x5 ⟨rfl, hb5⟩; have HB5 := Lib.hid (below_then (HB4.out.setCell (p := ⟨x1.heap.size, 8, none⟩) (Nat.le_of_lt hR1) (.int .i64 hi2)) (HB4.out.setCell (p := ⟨x1.heap.size, 8, none⟩) (Nat.le_of_lt hR1) (.int .i64 hi2)).size hb5); have HZ5 := Lib.hid ((HZ4.out.other ⟨x1.heap.size, 8, none⟩ hRn2 (.int .i64 hi2)).below hb5); have HR5 : Hid (Blk x5 x1.heap.size (rc false 0 0 0 0 0 ⟨#[]⟩ lo hi2) _) := Lib.hid ((HR4.out.set 8 (.int .i64 hi2)).below hb5); have HWD5 : Hid (∀ j, (h : j < l.length) → x5.cell? ⟨w.heap.size + 1, j, none⟩ = some (.string l[j])) := Lib.hid (fun j h => pw_cell_below hb5 (by rw [World.cell?_setCell_other _ _ _ _ (by intro e; injection e with e; omega)]; exact HWD4.out j h)); clear wd1; have wd1 : x5.cell? ⟨w.heap.size + 1, 1, none⟩ = some (.string w1s) := (HWD5.out 1 (by have := Xh0.out; omega)).trans (by rw [(List.getElem?_eq_some_iff.1 Xhw1.out).2]); clear k0 k1 k2 k3 k4 k5 k6 k7 k8 f0 f1 f2 f3 f4 f5 f6 f7 f8; obtain ⟨k0, k1, k2, k3, k4, k5, k6, k7, k8⟩ := HR5.out.nine; obtain ⟨f0, f1, f2, f3, f4, f5, f6, f7, f8⟩ := HR5.out.frees; clear hb5) | (go_at_call_of 24 (Value.string nS); refine (XHN3.out _ (StdW.below HS.out HB5.out)).mono ?_; rintro e x6 ⟨rfl, hb6⟩; have HB6 := Lib.hid (below_then HB5.out HB5.out.size hb6); have HZ6 := Lib.hid (HZ5.out.below hb6); have HR6 := Lib.hid (HR5.out.below hb6); clear k0 k1 k2 k3 k4 k5 k6 k7 k8 f0 f1 f2 f3 f4 f5 f6 f7 f8; obtain ⟨k0, k1, k2, k3, k4, k5, k6, k7, k8⟩ := HR6.out.nine; obtain ⟨f0, f1, f2, f3, f4, f5, f6, f7, f8⟩ := HR6.out.frees; clear hb6) | (go_at_call 25; refine (XHPA.out _ (StdW.below HS.out (HB6.out.setCell (p := ⟨x1.heap.size, 5, none⟩) (Nat.le_of_lt hR1) (.int .i64 bi)))).mono ?_; rintro e x7 ⟨⟨eb, rfl⟩, hb7⟩; have HB7 := Lib.hid (below_then (HB6.out.setCell (p := ⟨x1.heap.size, 5, none⟩) (Nat.le_of_lt hR1) (.int .i64 bi)) (HB6.out.setCell (p := ⟨x1.heap.size, 5, none⟩) (Nat.le_of_lt hR1) (.int .i64 bi)).size hb7); have HZ7 := Lib.hid ((HZ6.out.other ⟨x1.heap.size, 5, none⟩ hRn2 (.int .i64 bi)).below hb7); have HR7 : Hid (Blk x7 x1.heap.size (rc false 0 0 0 0 bi ⟨#[]⟩ lo hi2) _) := Lib.hid ((HR6.out.set 5 (.int .i64 bi)).below hb7); clear k0 k1 k2 k3 k4 k5 k6 k7 k8 f0 f1 f2 f3 f4 f5 f6 f7 f8; obtain ⟨k0, k1, k2, k3, k4, k5, k6, k7, k8⟩ := HR7.out.nine; obtain ⟨f0, f1, f2, f3, f4, f5, f6, f7, f8⟩ := HR7.out.frees; obtain ⟨z0, z1, z2, z3, z4, z5, z6, z7, z8⟩ := HZ7.out.nine; obtain ⟨g0, g1, g2, g3, g4, g5, g6, g7, g8⟩ := HZ7.out.frees; clear hb7) | (go_at_call 18; refine (XHRT.out _ (StdW.below HS.out ((((HB7.out.setCell (p := ⟨x1.heap.size, 1, none⟩) (Nat.le_of_lt hR1) (.int .u8 0)).setCell (p := ⟨x1.heap.size, 2, none⟩) (Nat.le_of_lt hR1) (.int .u8 0)).setCell (p := ⟨x1.heap.size, 3, none⟩) (Nat.le_of_lt hR1) (.int .u8 0)).setCell (p := ⟨x1.heap.size, 4, none⟩) (Nat.le_of_lt hR1) (.int .u8 0)))).mono ?_; rintro e x8 ⟨rfl, hb8⟩; have HB8 := Lib.hid (below_then ((((HB7.out.setCell (p := ⟨x1.heap.size, 1, none⟩) (Nat.le_of_lt hR1) (.int .u8 0)).setCell (p := ⟨x1.heap.size, 2, none⟩) (Nat.le_of_lt hR1) (.int .u8 0)).setCell (p := ⟨x1.heap.size, 3, none⟩) (Nat.le_of_lt hR1) (.int .u8 0)).setCell (p := ⟨x1.heap.size, 4, none⟩) (Nat.le_of_lt hR1) (.int .u8 0)) ((((HB7.out.setCell (p := ⟨x1.heap.size, 1, none⟩) (Nat.le_of_lt hR1) (.int .u8 0)).setCell (p := ⟨x1.heap.size, 2, none⟩) (Nat.le_of_lt hR1) (.int .u8 0)).setCell (p := ⟨x1.heap.size, 3, none⟩) (Nat.le_of_lt hR1) (.int .u8 0)).setCell (p := ⟨x1.heap.size, 4, none⟩) (Nat.le_of_lt hR1) (.int .u8 0)).size hb8); have HZ8 := Lib.hid (((((HZ7.out.other ⟨x1.heap.size, 1, none⟩ hRn2 (.int .u8 0)).other ⟨x1.heap.size, 2, none⟩ hRn2 (.int .u8 0)).other ⟨x1.heap.size, 3, none⟩ hRn2 (.int .u8 0)).other ⟨x1.heap.size, 4, none⟩ hRn2 (.int .u8 0)).below hb8); have HR8 : Hid (Blk x8 x1.heap.size (rc false 0 0 0 0 bi ⟨#[]⟩ lo hi2) _) := Lib.hid (((((HR7.out.set 1 (.int .u8 0)).set 2 (.int .u8 0)).set 3 (.int .u8 0)).set 4 (.int .u8 0)).below hb8); clear k0 k1 k2 k3 k4 k5 k6 k7 k8 f0 f1 f2 f3 f4 f5 f6 f7 f8; clear z0 z1 z2 z3 z4 z5 z6 z7 z8 g0 g1 g2 g3 g4 g5 g6 g7 g8; obtain ⟨k0, k1, k2, k3, k4, k5, k6, k7, k8⟩ := HR8.out.nine; obtain ⟨f0, f1, f2, f3, f4, f5, f6, f7, f8⟩ := HR8.out.frees; obtain ⟨z0, z1, z2, z3, z4, z5, z6, z7, z8⟩ := HZ8.out.nine; obtain ⟨g0, g1, g2, g3, g4, g5, g6, g7, g8⟩ := HZ8.out.frees; clear hb8))
      all_goals
        refine bodyPost_ret (v := zeroRule) (by simp [results, Tryd.results11, go_sem, zeroRule, rc, z0, z1, z2, z3, z4, z5, z6, z7, z8, hRn1, hRn2]) rfl ⟨rfl, ?_⟩
        repeat (refine Below.setCell ?_ (by first | exact Nat.le_refl _ | exact Nat.le_of_lt hR1) _)
        exact HB7.out
    · cases okB
      · go_enter Tryd.func11, Tryd.ntmps11
        go_wp2_with (first | (go_at_call 22; refine (XHSP.out _ (StdW.below HS.out (below_alloc (Below.refl _ _) _))).mono ?_; rintro e x1 ⟨rfl, hc, hlt1, hb1⟩; have HB1 := Lib.hid (below_then (below_alloc (Below.refl w.heap.size w) _) (below_alloc (Below.refl w.heap.size w) _).size hb1); have hR1 : w.heap.size < x1.heap.size := (by have := hb1.size; simp at this; omega); have hRn1 : ¬ x1.heap.size = w.heap.size := (by omega); have hRn2 : ¬ w.heap.size = x1.heap.size := (by omega); have HZ1 := Lib.hid ((Blk.new w (rc false 0 0 0 0 0 ⟨#[]⟩ 0 0) _).below hb1); have HWD1 : Hid (∀ j, (h : j < l.length) → x1.cell? ⟨w.heap.size + 1, j, none⟩ = some (.string l[j])) := Lib.hid (fun j h => by have := hc j h; rw [World.size_alloc] at this; exact this); have wd0 : x1.cell? ⟨w.heap.size + 1, 0, none⟩ = some (.string w0) := (HWD1.out 0 (by have := Xh0.out; omega)).trans (by rw [(List.getElem?_eq_some_iff.1 Xhw0.out).2]); have wd2 : x1.cell? ⟨w.heap.size + 1, 2, none⟩ = some (.string w2s) := (HWD1.out 2 (by have := Xh0.out; omega)).trans (by rw [(List.getElem?_eq_some_iff.1 Xhw2.out).2]); have hwl : w.heap.size + 1 < x1.heap.size := (by simpa using hlt1); clear hc hlt1 hb1) | (go_at_call_of 23 (Value.string w2s); refine (XHC2.out _ (StdW.below HS.out (below_alloc HB1.out _))).mono ?_; rintro e x2 ⟨rfl, hb2⟩; have HB2 := Lib.hid (below_then (below_alloc HB1.out _) (below_alloc HB1.out _).size hb2); have HZ2 := Lib.hid ((HZ1.out.old _).below hb2); have HR2 : Hid (Blk x2 x1.heap.size (rc false 0 0 0 0 0 ⟨#[]⟩ 0 0) _) := Lib.hid ((Blk.new x1 (rc false 0 0 0 0 0 ⟨#[]⟩ 0 0) _).below hb2); have HWD2 : Hid (∀ j, (h : j < l.length) → x2.cell? ⟨w.heap.size + 1, j, none⟩ = some (.string l[j])) := Lib.hid (fun j h => pw_cell_below hb2 (pw_cell_below (below_alloc (Below.refl _ _) _) (HWD1.out j h))); clear hb2 wd0 wd2) | (go_at_call_of 24 (Value.string lowS); refine (XHN1.out _ (StdW.below HS.out HB2.out)).mono ?_; rintro e x3 ⟨rfl, hb3⟩; have HB3 := Lib.hid (below_then HB2.out HB2.out.size hb3); have HZ3 := Lib.hid (HZ2.out.below hb3); have HR3 := Lib.hid (HR2.out.below hb3); have HWD3 : Hid (∀ j, (h : j < l.length) → x3.cell? ⟨w.heap.size + 1, j, none⟩ = some (.string l[j])) := Lib.hid (fun j h => pw_cell_below hb3 (HWD2.out j h)); have wd1 : x3.cell? ⟨w.heap.size + 1, 1, none⟩ = some (.string w1s) := (HWD3.out 1 (by have := Xh0.out; omega)).trans (by rw [(List.getElem?_eq_some_iff.1 Xhw1.out).2]); obtain ⟨k0, k1, k2, k3, k4, k5, k6, k7, k8⟩ := HR3.out.nine; obtain ⟨f0, f1, f2, f3, f4, f5, f6, f7, f8⟩ := HR3.out.frees; clear hb3) | (go_at_call_of 24 (Value.string highS); refine (XHN2.out _ (StdW.below HS.out ((HB3.out.setCell (p := ⟨x1.heap.size, 7, none⟩) (Nat.le_of_lt hR1) (.int .i64 lo)).setCell (p := ⟨x1.heap.size, 8, none⟩) (Nat.le_of_lt hR1) (.int .i64 lo)))).mono ?_; rintro e x4 ⟨rfl, hb4⟩; have HB4 := Lib.hid (below_then ((HB3.out.setCell (p := ⟨x1.heap.size, 7, none⟩) (Nat.le_of_lt hR1) (.int .i64 lo)).setCell (p := ⟨x1.heap.size, 8, none⟩) (Nat.le_of_lt hR1) (.int .i64 lo)) ((HB3.out.setCell (p := ⟨x1.heap.size, 7, none⟩) (Nat.le_of_lt hR1) (.int .i64 lo)).setCell (p := ⟨x1.heap.size, 8, none⟩) (Nat.le_of_lt hR1) (.int .i64 lo)).size hb4); have HZ4 := Lib.hid (((HZ3.out.other ⟨x1.heap.size, 7, none⟩ hRn2 (.int .i64 lo)).other ⟨x1.heap.size, 8, none⟩ hRn2 (.int .i64 lo)).below hb4); have HR4 : Hid (Blk x4 x1.heap.size (rc false 0 0 0 0 0 ⟨#[]⟩ lo lo) _) := Lib.hid (((HR3.out.set 7 (.int .i64 lo)).set 8 (.int .i64 lo)).below hb4); have HWD4 : Hid (∀ j, (h : j < l.length) → x4.cell? ⟨w.heap.size + 1, j, none⟩ = some (.string l[j])) := Lib.hid (fun j h => pw_cell_below hb4 (by rw [World.cell?_setCell_other _ _ _ _ (by intro e; injection e with e; omega), World.cell?_setCell_other _ _ _ _ (by intro e; injection e with e; omega)]; exact HWD3.out j h)); clear wd1; have wd1 : x4.cell? ⟨w.heap.size + 1, 1, none⟩ = some (.string w1s) := (HWD4.out 1 (by have := Xh0.out; omega)).trans (by rw [(List.getElem?_eq_some_iff.1 Xhw1.out).2]); clear k0 k1 k2 k3 k4 k5 k6 k7 k8 f0 f1 f2 f3 f4 f5 f6 f7 f8; obtain ⟨k0, k1, k2, k3, k4, k5, k6, k7, k8⟩ := HR4.out.nine; obtain ⟨f0, f1, f2, f3, f4, f5, f6, f7, f8⟩ := HR4.out.frees; clear hb4) | (go_at_call_of 23 (Value.string w1s); refine (XHC1.out _ (StdW.below HS.out (HB4.out.setCell (p := ⟨x1.heap.size, 8, none⟩) (Nat.le_of_lt hR1) (.int .i64 hi2)))).mono ?_; rintro e x5 ⟨rfl, hb5⟩; have HB5 := Lib.hid (below_then (HB4.out.setCell (p := ⟨x1.heap.size, 8, none⟩) (Nat.le_of_lt hR1) (.int .i64 hi2)) (HB4.out.setCell (p := ⟨x1.heap.size, 8, none⟩) (Nat.le_of_lt hR1) (.int .i64 hi2)).size hb5); have HZ5 := Lib.hid ((HZ4.out.other ⟨x1.heap.size, 8, none⟩ hRn2 (.int .i64 hi2)).below hb5); have HR5 : Hid (Blk x5 x1.heap.size (rc false 0 0 0 0 0 ⟨#[]⟩ lo hi2) _) := Lib.hid ((HR4.out.set 8 (.int .i64 hi2)).below hb5); have HWD5 : Hid (∀ j, (h : j < l.length) → x5.cell? ⟨w.heap.size + 1, j, none⟩ = some (.string l[j])) := Lib.hid (fun j h => pw_cell_below hb5 (by rw [World.cell?_setCell_other _ _ _ _ (by intro e; injection e with e; omega)]; exact HWD4.out j h)); clear wd1; have wd1 : x5.cell? ⟨w.heap.size + 1, 1, none⟩ = some (.string w1s) := (HWD5.out 1 (by have := Xh0.out; omega)).trans (by rw [(List.getElem?_eq_some_iff.1 Xhw1.out).2]); clear k0 k1 k2 k3 k4 k5 k6 k7 k8 f0 f1 f2 f3 f4 f5 f6 f7 f8; obtain ⟨k0, k1, k2, k3, k4, k5, k6, k7, k8⟩ := HR5.out.nine; obtain ⟨f0, f1, f2, f3, f4, f5, f6, f7, f8⟩ := HR5.out.frees; clear hb5) | (go_at_call_of 24 (Value.string nS); refine (XHN3.out _ (StdW.below HS.out HB5.out)).mono ?_; rintro e x6 ⟨rfl, hb6⟩; have HB6 := Lib.hid (below_then HB5.out HB5.out.size hb6); have HZ6 := Lib.hid (HZ5.out.below hb6); have HR6 := Lib.hid (HR5.out.below hb6); clear k0 k1 k2 k3 k4 k5 k6 k7 k8 f0 f1 f2 f3 f4 f5 f6 f7 f8; obtain ⟨k0, k1, k2, k3, k4, k5, k6, k7, k8⟩ := HR6.out.nine; obtain ⟨f0, f1, f2, f3, f4, f5, f6, f7, f8⟩ := HR6.out.frees; clear hb6) | (go_at_call 25; refine (XHPA.out _ (StdW.below HS.out (HB6.out.setCell (p := ⟨x1.heap.size, 5, none⟩) (Nat.le_of_lt hR1) (.int .i64 bi)))).mono ?_; rintro e x7 ⟨⟨eb, rfl⟩, hb7⟩; have HB7 := Lib.hid (below_then (HB6.out.setCell (p := ⟨x1.heap.size, 5, none⟩) (Nat.le_of_lt hR1) (.int .i64 bi)) (HB6.out.setCell (p := ⟨x1.heap.size, 5, none⟩) (Nat.le_of_lt hR1) (.int .i64 bi)).size hb7); have HZ7 := Lib.hid ((HZ6.out.other ⟨x1.heap.size, 5, none⟩ hRn2 (.int .i64 bi)).below hb7); have HR7 : Hid (Blk x7 x1.heap.size (rc false 0 0 0 0 bi ⟨#[]⟩ lo hi2) _) := Lib.hid ((HR6.out.set 5 (.int .i64 bi)).below hb7); clear k0 k1 k2 k3 k4 k5 k6 k7 k8 f0 f1 f2 f3 f4 f5 f6 f7 f8; obtain ⟨k0, k1, k2, k3, k4, k5, k6, k7, k8⟩ := HR7.out.nine; obtain ⟨f0, f1, f2, f3, f4, f5, f6, f7, f8⟩ := HR7.out.frees; obtain ⟨z0, z1, z2, z3, z4, z5, z6, z7, z8⟩ := HZ7.out.nine; obtain ⟨g0, g1, g2, g3, g4, g5, g6, g7, g8⟩ := HZ7.out.frees; clear hb7) | (go_at_call 18; refine (XHRT.out _ (StdW.below HS.out ((((HB7.out.setCell (p := ⟨x1.heap.size, 1, none⟩) (Nat.le_of_lt hR1) (.int .u8 0)).setCell (p := ⟨x1.heap.size, 2, none⟩) (Nat.le_of_lt hR1) (.int .u8 0)).setCell (p := ⟨x1.heap.size, 3, none⟩) (Nat.le_of_lt hR1) (.int .u8 0)).setCell (p := ⟨x1.heap.size, 4, none⟩) (Nat.le_of_lt hR1) (.int .u8 0)))).mono ?_; rintro e x8 ⟨rfl, hb8⟩; have HB8 := Lib.hid (below_then ((((HB7.out.setCell (p := ⟨x1.heap.size, 1, none⟩) (Nat.le_of_lt hR1) (.int .u8 0)).setCell (p := ⟨x1.heap.size, 2, none⟩) (Nat.le_of_lt hR1) (.int .u8 0)).setCell (p := ⟨x1.heap.size, 3, none⟩) (Nat.le_of_lt hR1) (.int .u8 0)).setCell (p := ⟨x1.heap.size, 4, none⟩) (Nat.le_of_lt hR1) (.int .u8 0)) ((((HB7.out.setCell (p := ⟨x1.heap.size, 1, none⟩) (Nat.le_of_lt hR1) (.int .u8 0)).setCell (p := ⟨x1.heap.size, 2, none⟩) (Nat.le_of_lt hR1) (.int .u8 0)).setCell (p := ⟨x1.heap.size, 3, none⟩) (Nat.le_of_lt hR1) (.int .u8 0)).setCell (p := ⟨x1.heap.size, 4, none⟩) (Nat.le_of_lt hR1) (.int .u8 0)).size hb8); have HZ8 := Lib.hid (((((HZ7.out.other ⟨x1.heap.size, 1, none⟩ hRn2 (.int .u8 0)).other ⟨x1.heap.size, 2, none⟩ hRn2 (.int .u8 0)).other ⟨x1.heap.size, 3, none⟩ hRn2 (.int .u8 0)).other ⟨x1.heap.size, 4, none⟩ hRn2 (.int .u8 0)).below hb8); have HR8 : Hid (Blk x8 x1.heap.size (rc false 0 0 0 0 bi ⟨#[]⟩ lo hi2) _) := Lib.hid (((((HR7.out.set 1 (.int .u8 0)).set 2 (.int .u8 0)).set 3 (.int .u8 0)).set 4 (.int .u8 0)).below hb8); clear k0 k1 k2 k3 k4 k5 k6 k7 k8 f0 f1 f2 f3 f4 f5 f6 f7 f8; clear z0 z1 z2 z3 z4 z5 z6 z7 z8 g0 g1 g2 g3 g4 g5 g6 g7 g8; obtain ⟨k0, k1, k2, k3, k4, k5, k6, k7, k8⟩ := HR8.out.nine; obtain ⟨f0, f1, f2, f3, f4, f5, f6, f7, f8⟩ := HR8.out.frees; obtain ⟨z0, z1, z2, z3, z4, z5, z6, z7, z8⟩ := HZ8.out.nine; obtain ⟨g0, g1, g2, g3, g4, g5, g6, g7, g8⟩ := HZ8.out.frees; clear hb8))
        all_goals
          refine bodyPost_ret (v := zeroRule) (by simp [results, Tryd.results11, go_sem, zeroRule, rc, z0, z1, z2, z3, z4, z5, z6, z7, z8, hRn1, hRn2]) rfl ⟨rfl, ?_⟩
          repeat (refine Below.setCell ?_ (by first | exact Nat.le_refl _ | exact Nat.le_of_lt hR1) _)
          exact HB7.out
      · cases ne
        · go_enter Tryd.func11, Tryd.ntmps11
          go_wp2_with (first | (go_at_call 22; refine (XHSP.out _ (StdW.below HS.out (below_alloc (Below.refl _ _) _))).mono ?_; rintro e x1 ⟨rfl, hc, hlt1, hb1⟩; have HB1 := Lib.hid (below_then (below_alloc (Below.refl w.heap.size w) _) (below_alloc (Below.refl w.heap.size w) _).size hb1); have hR1 : w.heap.size < x1.heap.size := (by have := hb1.size; simp at this; omega); have hRn1 : ¬ x1.heap.size = w.heap.size := (by omega); have hRn2 : ¬ w.heap.size = x1.heap.size := (by omega); have HZ1 := Lib.hid ((Blk.new w (rc false 0 0 0 0 0 ⟨#[]⟩ 0 0) _).below hb1); have HWD1 : Hid (∀ j, (h : j < l.length) → x1.cell? ⟨w.heap.size + 1, j, none⟩ = some (.string l[j])) := Lib.hid (fun j h => by have := hc j h; rw [World.size_alloc] at this; exact this); have wd0 : x1.cell? ⟨w.heap.size + 1, 0, none⟩ = some (.string w0) := (HWD1.out 0 (by have := Xh0.out; omega)).trans (by rw [(List.getElem?_eq_some_iff.1 Xhw0.out).2]); have wd2 : x1.cell? ⟨w.heap.size + 1, 2, none⟩ = some (.string w2s) := (HWD1.out 2 (by have := Xh0.out; omega)).trans (by rw [(List.getElem?_eq_some_iff.1 Xhw2.out).2]); have hwl : w.heap.size + 1 < x1.heap.size := (by simpa using hlt1); clear hc hlt1 hb1) | (go_at_call_of 23 (Value.string w2s); refine (XHC2.out _ (StdW.below HS.out (below_alloc HB1.out _))).mono ?_; rintro e x2 ⟨rfl, hb2⟩; have HB2 := Lib.hid (below_then (below_alloc HB1.out _) (below_alloc HB1.out _).size hb2); have HZ2 := Lib.hid ((HZ1.out.old _).below hb2); have HR2 : Hid (Blk x2 x1.heap.size (rc false 0 0 0 0 0 ⟨#[]⟩ 0 0) _) := Lib.hid ((Blk.new x1 (rc false 0 0 0 0 0 ⟨#[]⟩ 0 0) _).below hb2); have HWD2 : Hid (∀ j, (h : j < l.length) → x2.cell? ⟨w.heap.size + 1, j, none⟩ = some (.string l[j])) := Lib.hid (fun j h => pw_cell_below hb2 (pw_cell_below (below_alloc (Below.refl _ _) _) (HWD1.out j h))); clear hb2 wd0 wd2) | (go_at_call_of 24 (Value.string lowS); refine (XHN1.out _ (StdW.below HS.out HB2.out)).mono ?_; rintro e x3 ⟨rfl, hb3⟩; have HB3 := Lib.hid (below_then HB2.out HB2.out.size hb3); have HZ3 := Lib.hid (HZ2.out.below hb3); have HR3 := Lib.hid (HR2.out.below hb3); have HWD3 : Hid (∀ j, (h : j < l.length) → x3.cell? ⟨w.heap.size + 1, j, none⟩ = some (.string l[j])) := Lib.hid (fun j h => pw_cell_below hb3 (HWD2.out j h)); have wd1 : x3.cell? ⟨w.heap.size + 1, 1, none⟩ = some (.string w1s) := (HWD3.out 1 (by have := Xh0.out; omega)).trans (by rw [(List.getElem?_eq_some_iff.1 Xhw1.out).2]); obtain ⟨k0, k1, k2, k3, k4, k5, k6, k7, k8⟩ := HR3.out.nine; obtain ⟨f0, f1, f2, f3, f4, f5, f6, f7, f8⟩ := HR3.out.frees; clear hb3) | (go_at_call_of 24 (Value.string highS); refine (XHN2.out _ (StdW.below HS.out ((HB3.out.setCell (p := ⟨x1.heap.size, 7, none⟩) (Nat.le_of_lt hR1) (.int .i64 lo)).setCell (p := ⟨x1.heap.size, 8, none⟩) (Nat.le_of_lt hR1) (.int .i64 lo)))).mono ?_; rintro e x4 ⟨rfl, hb4⟩; have HB4 := Lib.hid (below_then ((HB3.out.setCell (p := ⟨x1.heap.size, 7, none⟩) (Nat.le_of_lt hR1) (.int .i64 lo)).setCell (p := ⟨x1.heap.size, 8, none⟩) (Nat.le_of_lt hR1) (.int .i64 lo)) ((HB3.out.setCell (p := ⟨x1.heap.size, 7, none⟩) (Nat.le_of_lt hR1) (.int .i64 lo)).setCell (p := ⟨x1.heap.size, 8, none⟩) (Nat.le_of_lt hR1) (.int .i64 lo)).size hb4); have HZ4 := Lib.hid (((HZ3.out.other ⟨x1.heap.size, 7, none⟩ hRn2 (.int .i64 lo)).other ⟨x1.heap.size, 8, none⟩ hRn2 (.int .i64 lo)).below hb4); have HR4 : Hid (Blk x4 x1.heap.size (rc false 0 0 0 0 0 ⟨#[]⟩ lo lo) _) := Lib.hid (((HR3.out.set 7 (.int .i64 lo)).set 8 (.int .i64 lo)).below hb4); have HWD4 : Hid (∀ j, (h : j < l.length) → x4.cell? ⟨w.heap.size + 1, j, none⟩ = some (.string l[j])) := Lib.hid (fun j h => pw_cell_below hb4 (by rw [World.cell?_setCell_other _ _ _ _ (by intro e; injection e with e; omega), World.cell?_setCell_other _ _ _ _ (by intro e; injection e with e; omega)]; exact HWD3.out j h)); clear wd1; have wd1 : x4.cell? ⟨w.heap.size + 1, 1, none⟩ = some (.string w1s) := (HWD4.out 1 (by have := Xh0.out; omega)).trans (by rw [(List.getElem?_eq_some_iff.1 Xhw1.out).2]); clear k0 k1 k2 k3 k4 k5 k6 k7 k8 f0 f1 f2 f3 f4 f5 f6 f7 f8; obtain ⟨k0, k1, k2, k3, k4, k5, k6, k7, k8⟩ := HR4.out.nine; obtain ⟨f0, f1, f2, f3, f4, f5, f6, f7, f8⟩ := HR4.out.frees; clear hb4) | (go_at_call_of 23 (Value.string w1s); refine (XHC1.out _ (StdW.below HS.out (HB4.out.setCell (p := ⟨x1.heap.size, 8, none⟩) (Nat.le_of_lt hR1) (.int .i64 hi2)))).mono ?_; rintro e x5 ⟨rfl, hb5⟩; have HB5 := Lib.hid (below_then (HB4.out.setCell (p := ⟨x1.heap.size, 8, none⟩) (Nat.le_of_lt hR1) (.int .i64 hi2)) (HB4.out.setCell (p := ⟨x1.heap.size, 8, none⟩) (Nat.le_of_lt hR1) (.int .i64 hi2)).size hb5); have HZ5 := Lib.hid ((HZ4.out.other ⟨x1.heap.size, 8, none⟩ hRn2 (.int .i64 hi2)).below hb5); have HR5 : Hid (Blk x5 x1.heap.size (rc false 0 0 0 0 0 ⟨#[]⟩ lo hi2) _) := Lib.hid ((HR4.out.set 8 (.int .i64 hi2)).below hb5); have HWD5 : Hid (∀ j, (h : j < l.length) → x5.cell? ⟨w.heap.size + 1, j, none⟩ = some (.string l[j])) := Lib.hid (fun j h => pw_cell_below hb5 (by rw [World.cell?_setCell_other _ _ _ _ (by intro e; injection e with e; omega)]; exact HWD4.out j h)); clear wd1; have wd1 : x5.cell? ⟨w.heap.size + 1, 1, none⟩ = some (.string w1s) := (HWD5.out 1 (by have := Xh0.out; omega)).trans (by rw [(List.getElem?_eq_some_iff.1 Xhw1.out).2]); clear k0 k1 k2 k3 k4 k5 k6 k7 k8 f0 f1 f2 f3 f4 f5 f6 f7 f8; obtain ⟨k0, k1, k2, k3, k4, k5, k6, k7, k8⟩ := HR5.out.nine; obtain ⟨f0, f1, f2, f3, f4, f5, f6, f7, f8⟩ := HR5.out.frees; clear hb5) | (go_at_call_of 24 (Value.string nS); refine (XHN3.out _ (StdW.below HS.out HB5.out)).mono ?_; rintro e x6 ⟨rfl, hb6⟩; have HB6 := Lib.hid (below_then HB5.out HB5.out.size hb6); have HZ6 := Lib.hid (HZ5.out.below hb6); have HR6 := Lib.hid (HR5.out.below hb6); clear k0 k1 k2 k3 k4 k5 k6 k7 k8 f0 f1 f2 f3 f4 f5 f6 f7 f8; obtain ⟨k0, k1, k2, k3, k4, k5, k6, k7, k8⟩ := HR6.out.nine; obtain ⟨f0, f1, f2, f3, f4, f5, f6, f7, f8⟩ := HR6.out.frees; clear hb6) | (go_at_call 25; refine (XHPA.out _ (StdW.below HS.out (HB6.out.setCell (p := ⟨x1.heap.size, 5, none⟩) (Nat.le_of_lt hR1) (.int .i64 bi)))).mono ?_; rintro e x7 ⟨⟨eb, rfl⟩, hb7⟩; have HB7 := Lib.hid (below_then (HB6.out.setCell (p := ⟨x1.heap.size, 5, none⟩) (Nat.le_of_lt hR1) (.int .i64 bi)) (HB6.out.setCell (p := ⟨x1.heap.size, 5, none⟩) (Nat.le_of_lt hR1) (.int .i64 bi)).size hb7); have HZ7 := Lib.hid ((HZ6.out.other ⟨x1.heap.size, 5, none⟩ hRn2 (.int .i64 bi)).below hb7); have HR7 : Hid (Blk x7 x1.heap.size (rc false 0 0 0 0 bi ⟨#[]⟩ lo hi2) _) := Lib.hid ((HR6.out.set 5 (.int .i64 bi)).below hb7); clear k0 k1 k2 k3 k4 k5 k6 k7 k8 f0 f1 f2 f3 f4 f5 f6 f7 f8; obtain ⟨k0, k1, k2, k3, k4, k5, k6, k7, k8⟩ := HR7.out.nine; obtain ⟨f0, f1, f2, f3, f4, f5, f6, f7, f8⟩ := HR7.out.frees; obtain ⟨z0, z1, z2, z3, z4, z5, z6, z7, z8⟩ := HZ7.out.nine; obtain ⟨g0, g1, g2, g3, g4, g5, g6, g7, g8⟩ := HZ7.out.frees; clear hb7) | (go_at_call 18; refine (XHRT.out _ (StdW.below HS.out ((((HB7.out.setCell (p := ⟨x1.heap.size, 1, none⟩) (Nat.le_of_lt hR1) (.int .u8 0)).setCell (p := ⟨x1.heap.size, 2, none⟩) (Nat.le_of_lt hR1) (.int .u8 0)).setCell (p := ⟨x1.heap.size, 3, none⟩) (Nat.le_of_lt hR1) (.int .u8 0)).setCell (p := ⟨x1.heap.size, 4, none⟩) (Nat.le_of_lt hR1) (.int .u8 0)))).mono ?_; rintro e x8 ⟨rfl, hb8⟩; have HB8 := Lib.hid (below_then ((((HB7.out.setCell (p := ⟨x1.heap.size, 1, none⟩) (Nat.le_of_lt hR1) (.int .u8 0)).setCell (p := ⟨x1.heap.size, 2, none⟩) (Nat.le_of_lt hR1) (.int .u8 0)).setCell (p := ⟨x1.heap.size, 3, none⟩) (Nat.le_of_lt hR1) (.int .u8 0)).setCell (p := ⟨x1.heap.size, 4, none⟩) (Nat.le_of_lt hR1) (.int .u8 0)) ((((HB7.out.setCell (p := ⟨x1.heap.size, 1, none⟩) (Nat.le_of_lt hR1) (.int .u8 0)).setCell (p := ⟨x1.heap.size, 2, none⟩) (Nat.le_of_lt hR1) (.int .u8 0)).setCell (p := ⟨x1.heap.size, 3, none⟩) (Nat.le_of_lt hR1) (.int .u8 0)).setCell (p := ⟨x1.heap.size, 4, none⟩) (Nat.le_of_lt hR1) (.int .u8 0)).size hb8); have HZ8 := Lib.hid (((((HZ7.out.other ⟨x1.heap.size, 1, none⟩ hRn2 (.int .u8 0)).other ⟨x1.heap.size, 2, none⟩ hRn2 (.int .u8 0)).other ⟨x1.heap.size, 3, none⟩ hRn2 (.int .u8 0)).other ⟨x1.heap.size, 4, none⟩ hRn2 (.int .u8 0)).below hb8); have HR8 : Hid (Blk x8 x1.heap.size (rc false 0 0 0 0 bi ⟨#[]⟩ lo hi2) _) := Lib.hid (((((HR7.out.set 1 (.int .u8 0)).set 2 (.int .u8 0)).set 3 (.int .u8 0)).set 4 (.int .u8 0)).below hb8); clear k0 k1 k2 k3 k4 k5 k6 k7 k8 f0 f1 f2 f3 f4 f5 f6 f7 f8; clear z0 z1 z2 z3 z4 z5 z6 z7 z8 g0 g1 g2 g3 g4 g5 g6 g7 g8; obtain ⟨k0, k1, k2, k3, k4, k5, k6, k7, k8⟩ := HR8.out.nine; obtain ⟨f0, f1, f2, f3, f4, f5, f6, f7, f8⟩ := HR8.out.frees; obtain ⟨z0, z1, z2, z3, z4, z5, z6, z7, z8⟩ := HZ8.out.nine; obtain ⟨g0, g1, g2, g3, g4, g5, g6, g7, g8⟩ := HZ8.out.frees; clear hb8))
          all_goals
            refine bodyPost_ret (v := zeroRule) (by simp [results, Tryd.results11, go_sem, zeroRule, rc, z0, z1, z2, z3, z4, z5, z6, z7, z8, hRn1, hRn2]) rfl ⟨rfl, ?_⟩
            repeat (refine Below.setCell ?_ (by first | exact Nat.le_refl _ | exact Nat.le_of_lt hR1) _)
            exact HB7.out
        · cases okN
          · go_enter Tryd.func11, Tryd.ntmps11
            go_wp2_with (first | (go_at_call 22; refine (XHSP.out _ (StdW.below HS.out (below_alloc (Below.refl _ _) _))).mono ?_; rintro e x1 ⟨rfl, hc, hlt1, hb1⟩; have HB1 := Lib.hid (below_then (below_alloc (Below.refl w.heap.size w) _) (below_alloc (Below.refl w.heap.size w) _).size hb1); have hR1 : w.heap.size < x1.heap.size := (by have := hb1.size; simp at this; omega); have hRn1 : ¬ x1.heap.size = w.heap.size := (by omega); have hRn2 : ¬ w.heap.size = x1.heap.size := (by omega); have HZ1 := Lib.hid ((Blk.new w (rc false 0 0 0 0 0 ⟨#[]⟩ 0 0) _).below hb1); have HWD1 : Hid (∀ j, (h : j < l.length) → x1.cell? ⟨w.heap.size + 1, j, none⟩ = some (.string l[j])) := Lib.hid (fun j h => by have := hc j h; rw [World.size_alloc] at this; exact this); have wd0 : x1.cell? ⟨w.heap.size + 1, 0, none⟩ = some (.string w0) := (HWD1.out 0 (by have := Xh0.out; omega)).trans (by rw [(List.getElem?_eq_some_iff.1 Xhw0.out).2]); have wd2 : x1.cell? ⟨w.heap.size + 1, 2, none⟩ = some (.string w2s) := (HWD1.out 2 (by have := Xh0.out; omega)).trans (by rw [(List.getElem?_eq_some_iff.1 Xhw2.out).2]); have hwl : w.heap.size + 1 < x1.heap.size := (by simpa using hlt1); clear hc hlt1 hb1) | (go_at_call_of 23 (Value.string w2s); refine (XHC2.out _ (StdW.below HS.out (below_alloc HB1.out _))).mono ?_; rintro e x2 ⟨rfl, hb2⟩; have HB2 := Lib.hid (below_then (below_alloc HB1.out _) (below_alloc HB1.out _).size hb2); have HZ2 := Lib.hid ((HZ1.out.old _).below hb2); have HR2 : Hid (Blk x2 x1.heap.size (rc false 0 0 0 0 0 ⟨#[]⟩ 0 0) _) := Lib.hid ((Blk.new x1 (rc false 0 0 0 0 0 ⟨#[]⟩ 0 0) _).below hb2); have HWD2 : Hid (∀ j, (h : j < l.length) → x2.cell? ⟨w.heap.size + 1, j, none⟩ = some (.string l[j])) := Lib.hid (fun j h => pw_cell_below hb2 (pw_cell_below (below_alloc (Below.refl _ _) _) (HWD1.out j h))); clear hb2 wd0 wd2) | (go_at_call_of 24 (Value.string lowS); refine (XHN1.out _ (StdW.below HS.out HB2.out)).mono ?_; rintro e x3 ⟨rfl, hb3⟩; have HB3 := Lib.hid (below_then HB2.out HB2.out.size hb3); have HZ3 := Lib.hid (HZ2.out.below hb3); have HR3 := Lib.hid (HR2.out.below hb3); have HWD3 : Hid (∀ j, (h : j < l.length) → x3.cell? ⟨w.heap.size + 1, j, none⟩ = some (.string l[j])) := Lib.hid (fun j h => pw_cell_below hb3 (HWD2.out j h)); have wd1 : x3.cell? ⟨w.heap.size + 1, 1, none⟩ = some (.string w1s) := (HWD3.out 1 (by have := Xh0.out; omega)).trans (by rw [(List.getElem?_eq_some_iff.1 Xhw1.out).2]); obtain ⟨k0, k1, k2, k3, k4, k5, k6, k7, k8⟩ := HR3.out.nine; obtain ⟨f0, f1, f2, f3, f4, f5, f6, f7, f8⟩ := HR3.out.frees; clear hb3) | (go_at_call_of 24 (Value.string highS); refine (XHN2.out _ (StdW.below HS.out ((HB3.out.setCell (p := ⟨x1.heap.size, 7, none⟩) (Nat.le_of_lt hR1) (.int .i64 lo)).setCell (p := ⟨x1.heap.size, 8, none⟩) (Nat.le_of_lt hR1) (.int .i64 lo)))).mono ?_; rintro e x4 ⟨rfl, hb4⟩; have HB4 := Lib.hid (below_then ((HB3.out.setCell (p := ⟨x1.heap.size, 7, none⟩) (Nat.le_of_lt hR1) (.int .i64 lo)).setCell (p := ⟨x1.heap.size, 8, none⟩) (Nat.le_of_lt hR1) (.int .i64 lo)) ((HB3.out.setCell (p := ⟨x1.heap.size, 7, none⟩) (Nat.le_of_lt hR1) (.int .i64 lo)).setCell (p := ⟨x1.heap.size, 8, none⟩) (Nat.le_of_lt hR1) (.int .i64 lo)).size hb4); have HZ4 := Lib.hid (((HZ3.out.other ⟨x1.heap.size, 7, none⟩ hRn2 (.int .i64 lo)).other ⟨x1.heap.size, 8, none⟩ hRn2 (.int .i64 lo)).below hb4); have HR4 : Hid (Blk x4 x1.heap.size (rc false 0 0 0 0 0 ⟨#[]⟩ lo lo) _) := Lib.hid (((HR3.out.set 7 (.int .i64 lo)).set 8 (.int .i64 lo)).below hb4); have HWD4 : Hid (∀ j, (h : j < l.length) → x4.cell? ⟨w.heap.size + 1, j, none⟩ = some (.string l[j])) := Lib.hid (fun j h => pw_cell_below hb4 (by rw [World.cell?_setCell_other _ _ _ _ (by intro e; injection e with e; omega), World.cell?_setCell_other _ _ _ _ (by intro e; injection e with e; omega)]; exact HWD3.out j h)); clear wd1; have wd1 : x4.cell? ⟨w.heap.size + 1, 1, none⟩ = some (.string w1s) := (HWD4.out 1 (by have := Xh0.out; omega)).trans (by rw [(List.getElem?_eq_some_iff.1 Xhw1.out).2]); clear k0 k1 k2 k3 k4 k5 k6 k7 k8 f0 f1 f2 f3 f4 f5 f6 f7 f8; obtain ⟨k0, k1, k2, k3, k4, k5, k6, k7, k8⟩ := HR4.out.nine; obtain ⟨f0, f1, f2, f3, f4, f5, f6, f7, f8⟩ := HR4.out.frees; clear hb4) | (go_at_call_of 23 (Value.string w1s); refine (XHC1.out _ (StdW.below HS.out (HB4.out.setCell (p := ⟨x1.heap.size, 8, none⟩) (Nat.le_of_lt hR1) (.int .i64 hi2)))).mono ?_; rintro e x5 ⟨rfl, hb5⟩; have HB5 := Lib.hid (below_then (HB4.out.setCell (p := ⟨x1.heap.size, 8, none⟩) (Nat.le_of_lt hR1) (.int .i64 hi2)) (HB4.out.setCell (p := ⟨x1.heap.size, 8, none⟩) (Nat.le_of_lt hR1) (.int .i64 hi2)).size hb5); have HZ5 := Lib.hid ((HZ4.out.other ⟨x1.heap.size, 8, none⟩ hRn2 (.int .i64 hi2)).below hb5); have HR5 : Hid (Blk x5 x1.heap.size (rc false 0 0 0 0 0 ⟨#[]⟩ lo hi2) _) := Lib.hid ((HR4.out.set 8 (.int .i64 hi2)).below hb5); have HWD5 : Hid (∀ j, (h : j < l.length) → x5.cell? ⟨w.heap.size + 1, j, none⟩ = some (.string l[j])) := Lib.hid (fun j h => pw_cell_below hb5 (by rw [World.cell?_setCell_other _ _ _ _ (by intro e; injection e with e; omega)]; exact HWD4.out j h)); clear wd1; have wd1 : x5.cell? ⟨w.heap.size + 1, 1, none⟩ = some (.string w1s) := (HWD5.out 1 (by have := Xh0.out; omega)).trans (by rw [(List.getElem?_eq_some_iff.1 Xhw1.out).2]); clear k0 k1 k2 k3 k4 k5 k6 k7 k8 f0 f1 f2 f3 f4 f5 f6 f7 f8; obtain ⟨k0, k1, k2, k3, k4, k5, k6, k7, k8⟩ := HR5.out.nine; obtain ⟨f0, f1, f2, f3, f4, f5, f6, f7, f8⟩ := HR5.out.frees; clear hb5) | (go_at_call_of 24 (Value.string nS); refine (XHN3.out _ (StdW.below HS.out HB5.out)).mono ?_; rintro e x6 ⟨rfl, hb6⟩; have HB6 := Lib.hid (below_then HB5.out HB5.out.size hb6); have HZ6 := Lib.hid (HZ5.out.below hb6); have HR6 := Lib.hid (HR5.out.below hb6); clear k0 k1 k2 k3 k4 k5 k6 k7 k8 f0 f1 f2 f3 f4 f5 f6 f7 f8; obtain ⟨k0, k1, k2, k3, k4, k5, k6, k7, k8⟩ := HR6.out.nine; obtain ⟨f0, f1, f2, f3, f4, f5, f6, f7, f8⟩ := HR6.out.frees; clear hb6) | (go_at_call 25; refine (XHPA.out _ (StdW.below HS.out (HB6.out.setCell (p := ⟨x1.heap.size, 5, none⟩) (Nat.le_of_lt hR1) (.int .i64 bi)))).mono ?_; rintro e x7 ⟨⟨eb, rfl⟩, hb7⟩; have HB7 := Lib.hid (below_then (HB6.out.setCell (p := ⟨x1.heap.size, 5, none⟩) (Nat.le_of_lt hR1) (.int .i64 bi)) (HB6.out.setCell (p := ⟨x1.heap.size, 5, none⟩) (Nat.le_of_lt hR1) (.int .i64 bi)).size hb7); have HZ7 := Lib.hid ((HZ6.out.other ⟨x1.heap.size, 5, none⟩ hRn2 (.int .i64 bi)).below hb7); have HR7 : Hid (Blk x7 x1.heap.size (rc false 0 0 0 0 bi ⟨#[]⟩ lo hi2) _) := Lib.hid ((HR6.out.set 5 (.int .i64 bi)).below hb7); clear k0 k1 k2 k3 k4 k5 k6 k7 k8 f0 f1 f2 f3 f4 f5 f6 f7 f8; obtain ⟨k0, k1, k2, k3, k4, k5, k6, k7, k8⟩ := HR7.out.nine; obtain ⟨f0, f1, f2, f3, f4, f5, f6, f7, f8⟩ := HR7.out.frees; obtain ⟨z0, z1, z2, z3, z4, z5, z6, z7, z8⟩ := HZ7.out.nine; obtain ⟨g0, g1, g2, g3, g4, g5, g6, g7, g8⟩ := HZ7.out.frees; clear hb7) | (go_at_call 18; refine (XHRT.out _ (StdW.below HS.out ((((HB7.out.setCell (p := ⟨x1.heap.size, 1, none⟩) (Nat.le_of_lt hR1) (.int .u8 0)).setCell (p := ⟨x1.heap.size, 2, none⟩) (Nat.le_of_lt hR1) (.int .u8 0)).setCell (p := ⟨x1.heap.size, 3, none⟩) (Nat.le_of_lt hR1) (.int .u8 0)).setCell (p := ⟨x1.heap.size, 4, none⟩) (Nat.le_of_lt hR1) (.int .u8 0)))).mono ?_; rintro e x8 ⟨rfl, hb8⟩; have HB8 := Lib.hid (below_then ((((HB7.out.setCell (p := ⟨x1.heap.size, 1, none⟩) (Nat.le_of_lt hR1) (.int .u8 0)).setCell (p := ⟨x1.heap.size, 2, none⟩) (Nat.le_of_lt hR1) (.int .u8 0)).setCell (p := ⟨x1.heap.size, 3, none⟩) (Nat.le_of_lt hR1) (.int .u8 0)).setCell (p := ⟨x1.heap.size, 4, none⟩) (Nat.le_of_lt hR1) (.int .u8 0)) ((((HB7.out.setCell (p := ⟨x1.heap.size, 1, none⟩) (Nat.le_of_lt hR1) (.int .u8 0)).setCell (p := ⟨x1.heap.size, 2, none⟩) (Nat.le_of_lt hR1) (.int .u8 0)).setCell (p := ⟨x1.heap.size, 3, none⟩) (Nat.le_of_lt hR1) (.int .u8 0)).setCell (p := ⟨x1.heap.size, 4, none⟩) (Nat.le_of_lt hR1) (.int .u8 0)).size hb8); have HZ8 := Lib.hid (((((HZ7.out.other ⟨x1.heap.size, 1, none⟩ hRn2 (.int .u8 0)).other ⟨x1.heap.size, 2, none⟩ hRn2 (.int .u8 0)).other ⟨x1.heap.size, 3, none⟩ hRn2 (.int .u8 0)).other ⟨x1.heap.size, 4, none⟩ hRn2 (.int .u8 0)).below hb8); have HR8 : Hid (Blk x8 x1.heap.size (rc false 0 0 0 0 bi ⟨#[]⟩ lo hi2) _) := Lib.hid (((((HR7.out.set 1 (.int .u8 0)).set 2 (.int .u8 0)).set 3 (.int .u8 0)).set 4 (.int .u8 0)).below hb8); clear k0 k1 k2 k3 k4 k5 k6 k7 k8 f0 f1 f2 f3 f4 f5 f6 f7 f8; clear z0 z1 z2 z3 z4 z5 z6 z7 z8 g0 g1 g2 g3 g4 g5 g6 g7 g8; obtain ⟨k0, k1, k2, k3, k4, k5, k6, k7, k8⟩ := HR8.out.nine; obtain ⟨f0, f1, f2, f3, f4, f5, f6, f7, f8⟩ := HR8.out.frees; obtain ⟨z0, z1, z2, z3, z4, z5, z6, z7, z8⟩ := HZ8.out.nine; obtain ⟨g0, g1, g2, g3, g4, g5, g6, g7, g8⟩ := HZ8.out.frees; clear hb8))
            all_goals
              refine bodyPost_ret (v := zeroRule) (by simp [results, Tryd.results11, go_sem, zeroRule, rc, z0, z1, z2, z3, z4, z5, z6, z7, z8, hRn1, hRn2]) rfl ⟨rfl, ?_⟩
              repeat (refine Below.setCell ?_ (by first | exact Nat.le_refl _ | exact Nat.le_of_lt hR1) _)
              exact HB7.out
          · go_enter Tryd.func11, Tryd.ntmps11
            go_wp2_with (first | (go_at_call 22; refine (XHSP.out _ (StdW.below HS.out (below_alloc (Below.refl _ _) _))).mono ?_; rintro e x1 ⟨rfl, hc, hlt1, hb1⟩; have HB1 := Lib.hid (below_then (below_alloc (Below.refl w.heap.size w) _) (below_alloc (Below.refl w.heap.size w) _).size hb1); have hR1 : w.heap.size < x1.heap.size := (by have := hb1.size; simp at this; omega); have hRn1 : ¬ x1.heap.size = w.heap.size := (by omega); have hRn2 : ¬ w.heap.size = x1.heap.size := (by omega); have HZ1 := Lib.hid ((Blk.new w (rc false 0 0 0 0 0 ⟨#[]⟩ 0 0) _).below hb1); have HWD1 : Hid (∀ j, (h : j < l.length) → x1.cell? ⟨w.heap.size + 1, j, none⟩ = some (.string l[j])) := Lib.hid (fun j h => by have := hc j h; rw [World.size_alloc] at this; exact this); have wd0 : x1.cell? ⟨w.heap.size + 1, 0, none⟩ = some (.string w0) := (HWD1.out 0 (by have := Xh0.out; omega)).trans (by rw [(List.getElem?_eq_some_iff.1 Xhw0.out).2]); have wd2 : x1.cell? ⟨w.heap.size + 1, 2, none⟩ = some (.string w2s) := (HWD1.out 2 (by have := Xh0.out; omega)).trans (by rw [(List.getElem?_eq_some_iff.1 Xhw2.out).2]); have hwl : w.heap.size + 1 < x1.heap.size := (by simpa using hlt1); clear hc hlt1 hb1) | (go_at_call_of 23 (Value.string w2s); refine (XHC2.out _ (StdW.below HS.out (below_alloc HB1.out _))).mono ?_; rintro e x2 ⟨rfl, hb2⟩; have HB2 := Lib.hid (below_then (below_alloc HB1.out _) (below_alloc HB1.out _).size hb2); have HZ2 := Lib.hid ((HZ1.out.old _).below hb2); have HR2 : Hid (Blk x2 x1.heap.size (rc false 0 0 0 0 0 ⟨#[]⟩ 0 0) _) := Lib.hid ((Blk.new x1 (rc false 0 0 0 0 0 ⟨#[]⟩ 0 0) _).below hb2); have HWD2 : Hid (∀ j, (h : j < l.length) → x2.cell? ⟨w.heap.size + 1, j, none⟩ = some (.string l[j])) := Lib.hid (fun j h => pw_cell_below hb2 (pw_cell_below (below_alloc (Below.refl _ _) _) (HWD1.out j h))); clear hb2 wd0 wd2) | (go_at_call_of 24 (Value.string lowS); refine (XHN1.out _ (StdW.below HS.out HB2.out)).mono ?_; rintro e x3 ⟨rfl, hb3⟩; have HB3 := Lib.hid (below_then HB2.out HB2.out.size hb3); have HZ3 := Lib.hid (HZ2.out.below hb3); have HR3 := Lib.hid (HR2.out.below hb3); have HWD3 : Hid (∀ j, (h : j < l.length) → x3.cell? ⟨w.heap.size + 1, j, none⟩ = some (.string l[j])) := Lib.hid (fun j h => pw_cell_below hb3 (HWD2.out j h)); have wd1 : x3.cell? ⟨w.heap.size + 1, 1, none⟩ = some (.string w1s) := (HWD3.out 1 (by have := Xh0.out; omega)).trans (by rw [(List.getElem?_eq_some_iff.1 Xhw1.out).2]); obtain ⟨k0, k1, k2, k3, k4, k5, k6, k7, k8⟩ := HR3.out.nine; obtain ⟨f0, f1, f2, f3, f4, f5, f6, f7, f8⟩ := HR3.out.frees; clear hb3) | (go_at_call_of 24 (Value.string highS); refine (XHN2.out _ (StdW.below HS.out ((HB3.out.setCell (p := ⟨x1.heap.size, 7, none⟩) (Nat.le_of_lt hR1) (.int .i64 lo)).setCell (p := ⟨x1.heap.size, 8, none⟩) (Nat.le_of_lt hR1) (.int .i64 lo)))).mono ?_; rintro e x4 ⟨rfl, hb4⟩; have HB4 := Lib.hid (below_then ((HB3.out.setCell (p := ⟨x1.heap.size, 7, none⟩) (Nat.le_of_lt hR1) (.int .i64 lo)).setCell (p := ⟨x1.heap.size, 8, none⟩) (Nat.le_of_lt hR1) (.int .i64 lo)) ((HB3.out.setCell (p := ⟨x1.heap.size, 7, none⟩) (Nat.le_of_lt hR1) (.int .i64 lo)).setCell (p := ⟨x1.heap.size, 8, none⟩) (Nat.le_of_lt hR1) (.int .i64 lo)).size hb4); have HZ4 := Lib.hid (((HZ3.out.other ⟨x1.heap.size, 7, none⟩ hRn2 (.int .i64 lo)).other ⟨x1.heap.size, 8, none⟩ hRn2 (.int .i64 lo)).below hb4); have HR4 : Hid (Blk x4 x1.heap.size (rc false 0 0 0 0 0 ⟨#[]⟩ lo lo) _) := Lib.hid (((HR3.out.set 7 (.int .i64 lo)).set 8 (.int .i64 lo)).below hb4); have HWD4 : Hid (∀ j, (h : j < l.length) → x4.cell? ⟨w.heap.size + 1, j, none⟩ = some (.string l[j])) := Lib.hid (fun j h => pw_cell_below hb4 (by rw [World.cell?_setCell_other _ _ _ _ (by intro e; injection e with e; omega), World.cell?_setCell_other _ _ _ _ (by intro e; injection e with e; omega)]; exact HWD3.out j h)); clear wd1; have wd1 : x4.cell? ⟨w.heap.size + 1, 1, none⟩ = some (.string w1s) := (HWD4.out 1 (by have := Xh0.out; omega)).trans (by rw [(List.getElem?_eq_some_iff.1 Xhw1.out).2]); clear k0 k1 k2 k3 k4 k5 k6 k7 k8 f0 f1 f2 f3 f4 f5 f6 f7 f8; obtain ⟨k0, k1, k2, k3, k4, k5, k6, k7, k8⟩ := HR4.out.nine; obtain ⟨f0, f1, f2, f3, f4, f5, f6, f7, f8⟩ := HR4.out.frees; clear hb4) | (go_at_call_of 23 (Value.string w1s); refine (XHC1.out _ (StdW.below HS.out (HB4.out.setCell (p := ⟨x1.heap.size, 8, none⟩) (Nat.le_of_lt hR1) (.int .i64 hi2)))).mono ?_; rintro e x5 ⟨rfl, hb5⟩; have HB5 := Lib.hid (below_then (HB4.out.setCell (p := ⟨x1.heap.size, 8, none⟩) (Nat.le_of_lt hR1) (.int .i64 hi2)) (HB4.out.setCell (p := ⟨x1.heap.size, 8, none⟩) (Nat.le_of_lt hR1) (.int .i64 hi2)).size hb5); have HZ5 := Lib.hid ((HZ4.out.other ⟨x1.heap.size, 8, none⟩ hRn2 (.int .i64 hi2)).below hb5); have HR5 : Hid (Blk x5 x1.heap.size (rc false 0 0 0 0 0 ⟨#[]⟩ lo hi2) _) := Lib.hid ((HR4.out.set 8 (.int .i64 hi2)).below hb5); have HWD5 : Hid (∀ j, (h : j < l.length) → x5.cell? ⟨w.heap.size + 1, j, none⟩ = some (.string l[j])) := Lib.hid (fun j h => pw_cell_below hb5 (by rw [World.cell?_setCell_other _ _ _ _ (by intro e; injection e with e; omega)]; exact HWD4.out j h)); clear wd1; have wd1 : x5.cell? ⟨w.heap.size + 1, 1, none⟩ = some (.string w1s) := (HWD5.out 1 (by have := Xh0.out; omega)).trans (by rw [(List.getElem?_eq_some_iff.1 Xhw1.out).2]); clear k0 k1 k2 k3 k4 k5 k6 k7 k8 f0 f1 f2 f3 f4 f5 f6 f7 f8; obtain ⟨k0, k1, k2, k3, k4, k5, k6, k7, k8⟩ := HR5.out.nine; obtain ⟨f0, f1, f2, f3, f4, f5, f6, f7, f8⟩ := HR5.out.frees; clear hb5) | (go_at_call_of 24 (Value.string nS); refine (XHN3.out _ (StdW.below HS.out HB5.out)).mono ?_; rintro e x6 ⟨rfl, hb6⟩; have HB6 := Lib.hid (below_then HB5.out HB5.out.size hb6); have HZ6 := Lib.hid (HZ5.out.below hb6); have HR6 := Lib.hid (HR5.out.below hb6); clear k0 k1 k2 k3 k4 k5 k6 k7 k8 f0 f1 f2 f3 f4 f5 f6 f7 f8; obtain ⟨k0, k1, k2, k3, k4, k5, k6, k7, k8⟩ := HR6.out.nine; obtain ⟨f0, f1, f2, f3, f4, f5, f6, f7, f8⟩ := HR6.out.frees; clear hb6) | (go_at_call 25; refine (XHPA.out _ (StdW.below HS.out (HB6.out.setCell (p := ⟨x1.heap.size, 5, none⟩) (Nat.le_of_lt hR1) (.int .i64 bi)))).mono ?_; rintro e x7 ⟨⟨eb, rfl⟩, hb7⟩; have HB7 := Lib.hid (below_then (HB6.out.setCell (p := ⟨x1.heap.size, 5, none⟩) (Nat.le_of_lt hR1) (.int .i64 bi)) (HB6.out.setCell (p := ⟨x1.heap.size, 5, none⟩) (Nat.le_of_lt hR1) (.int .i64 bi)).size hb7); have HZ7 := Lib.hid ((HZ6.out.other ⟨x1.heap.size, 5, none⟩ hRn2 (.int .i64 bi)).below hb7); have HR7 : Hid (Blk x7 x1.heap.size (rc false 0 0 0 0 bi ⟨#[]⟩ lo hi2) _) := Lib.hid ((HR6.out.set 5 (.int .i64 bi)).below hb7); clear k0 k1 k2 k3 k4 k5 k6 k7 k8 f0 f1 f2 f3 f4 f5 f6 f7 f8; obtain ⟨k0, k1, k2, k3, k4, k5, k6, k7, k8⟩ := HR7.out.nine; obtain ⟨f0, f1, f2, f3, f4, f5, f6, f7, f8⟩ := HR7.out.frees; obtain ⟨z0, z1, z2, z3, z4, z5, z6, z7, z8⟩ := HZ7.out.nine; obtain ⟨g0, g1, g2, g3, g4, g5, g6, g7, g8⟩ := HZ7.out.frees; clear hb7) | (go_at_call 18; refine (XHRT.out _ (StdW.below HS.out ((((HB7.out.setCell (p := ⟨x1.heap.size, 1, none⟩) (Nat.le_of_lt hR1) (.int .u8 0)).setCell (p := ⟨x1.heap.size, 2, none⟩) (Nat.le_of_lt hR1) (.int .u8 0)).setCell (p := ⟨x1.heap.size, 3, none⟩) (Nat.le_of_lt hR1) (.int .u8 0)).setCell (p := ⟨x1.heap.size, 4, none⟩) (Nat.le_of_lt hR1) (.int .u8 0)))).mono ?_; rintro e x8 ⟨rfl, hb8⟩; have HB8 := Lib.hid (below_then ((((HB7.out.setCell (p := ⟨x1.heap.size, 1, none⟩) (Nat.le_of_lt hR1) (.int .u8 0)).setCell (p := ⟨x1.heap.size, 2, none⟩) (Nat.le_of_lt hR1) (.int .u8 0)).setCell (p := ⟨x1.heap.size, 3, none⟩) (Nat.le_of_lt hR1) (.int .u8 0)).setCell (p := ⟨x1.heap.size, 4, none⟩) (Nat.le_of_lt hR1) (.int .u8 0)) ((((HB7.out.setCell (p := ⟨x1.heap.size, 1, none⟩) (Nat.le_of_lt hR1) (.int .u8 0)).setCell (p := ⟨x1.heap.size, 2, none⟩) (Nat.le_of_lt hR1) (.int .u8 0)).setCell (p := ⟨x1.heap.size, 3, none⟩) (Nat.le_of_lt hR1) (.int .u8 0)).setCell (p := ⟨x1.heap.size, 4, none⟩) (Nat.le_of_lt hR1) (.int .u8 0)).size hb8); have HZ8 := Lib.hid (((((HZ7.out.other ⟨x1.heap.size, 1, none⟩ hRn2 (.int .u8 0)).other ⟨x1.heap.size, 2, none⟩ hRn2 (.int .u8 0)).other ⟨x1.heap.size, 3, none⟩ hRn2 (.int .u8 0)).other ⟨x1.heap.size, 4, none⟩ hRn2 (.int .u8 0)).below hb8); have HR8 : Hid (Blk x8 x1.heap.size (rc false 0 0 0 0 bi ⟨#[]⟩ lo hi2) _) := Lib.hid (((((HR7.out.set 1 (.int .u8 0)).set 2 (.int .u8 0)).set 3 (.int .u8 0)).set 4 (.int .u8 0)).below hb8); clear k0 k1 k2 k3 k4 k5 k6 k7 k8 f0 f1 f2 f3 f4 f5 f6 f7 f8; clear z0 z1 z2 z3 z4 z5 z6 z7 z8 g0 g1 g2 g3 g4 g5 g6 g7 g8; obtain ⟨k0, k1, k2, k3, k4, k5, k6, k7, k8⟩ := HR8.out.nine; obtain ⟨f0, f1, f2, f3, f4, f5, f6, f7, f8⟩ := HR8.out.frees; obtain ⟨z0, z1, z2, z3, z4, z5, z6, z7, z8⟩ := HZ8.out.nine; obtain ⟨g0, g1, g2, g3, g4, g5, g6, g7, g8⟩ := HZ8.out.frees; clear hb8))
            all_goals
              refine bodyPost_ret (v := zeroRule) (by simp [results, Tryd.results11, go_sem, zeroRule, rc, z0, z1, z2, z3, z4, z5, z6, z7, z8, hRn1, hRn2]) rfl ⟨rfl, ?_⟩
              repeat (refine Below.setCell ?_ (by first | exact Nat.le_refl _ | exact Nat.le_of_lt hR1) _)
              exact HB7.out
  · clear hde
    cases okA
    · go_enter Tryd.func11, Tryd.ntmps11
      go_wp2_with (first | (go_at_call 22; refine (XHSP.out _ (StdW.below HS.out (below_alloc (Below.refl _ _) _))).mono ?_; rintro e x1 ⟨rfl, hc, hlt1, hb1⟩; have HB1 := Lib.hid (below_then (below_alloc (Below.refl w.heap.size w) _) (below_alloc (Below.refl w.heap.size w) _).size hb1); have hR1 : w.heap.size < x1.heap.size := (by have := hb1.size; simp at this; omega); have hRn1 : ¬ x1.heap.size = w.heap.size := (by omega); have hRn2 : ¬ w.heap.size = x1.heap.size := (by omega); have HZ1 := Lib.hid ((Blk.new w (rc false 0 0 0 0 0 ⟨#[]⟩ 0 0) _).below hb1); have HWD1 : Hid (∀ j, (h : j < l.length) → x1.cell? ⟨w.heap.size + 1, j, none⟩ = some (.string l[j])) := Lib.hid (fun j h => by have := hc j h; rw [World.size_alloc] at this; exact this); have wd0 : x1.cell? ⟨w.heap.size + 1, 0, none⟩ = some (.string w0) := (HWD1.out 0 (by have := Xh0.out; omega)).trans (by rw [(List.getElem?_eq_some_iff.1 Xhw0.out).2]); have wd2 : x1.cell? ⟨w.heap.size + 1, 2, none⟩ = some (.string w2s) := (HWD1.out 2 (by have := Xh0.out; omega)).trans (by rw [(List.getElem?_eq_some_iff.1 Xhw2.out).2]); have hwl : w.heap.size + 1 < x1.heap.size := (by simpa using hlt1); clear hc hlt1 hb1) | (go_at_call_of 23 (Value.string w2s); refine (XHC2.out _ (StdW.below HS.out (below_alloc HB1.out _))).mono ?_; rintro e x2 ⟨rfl, hb2⟩; have HB2 := Lib.hid (below_then (below_alloc HB1.out _) (below_alloc HB1.out _).size hb2); have HZ2 := Lib.hid ((HZ1.out.old _).below hb2); have HR2 : Hid (Blk x2 x1.heap.size (rc true 0 0 0 0 0 ⟨#[]⟩ 0 0) _) := Lib.hid ((Blk.new x1 (rc true 0 0 0 0 0 ⟨#[]⟩ 0 0) _).below hb2); have HWD2 : Hid (∀ j, (h : j < l.length) → x2.cell? ⟨w.heap.size + 1, j, none⟩ = some (.string l[j])) := Lib.hid (fun j h => pw_cell_below hb2 (pw_cell_below (below_alloc (Below.refl _ _) _) (HWD1.out j h))); clear hb2 wd0 wd2) | (go_at_call_of 24 (Value.string lowS); refine (XHN1.out _ (StdW.below HS.out HB2.out)).mono ?_; rintro e x3 ⟨rfl, hb3⟩; have HB3 := Lib.hid (below_then HB2.out HB2.out.size hb3); have HZ3 := Lib.hid (HZ2.out.below hb3); have HR3 := Lib.hid (HR2.out.below hb3); have HWD3 : Hid (∀ j, (h : j < l.length) → x3.cell? ⟨w.heap.size + 1, j, none⟩ = some (.string l[j])) := Lib.hid (fun j h => pw_cell_below hb3 (HWD2.out j h)); have wd1 : x3.cell? ⟨w.heap.size + 1, 1, none⟩ = some (.string w1s) := (HWD3.out 1 (by have := Xh0.out; omega)).trans (by rw [(List.getElem?_eq_some_iff.1 Xhw1.out).2]); obtain ⟨k0, k1, k2, k3, k4, k5, k6, k7, k8⟩ := HR3.out.nine; obtain ⟨f0, f1, f2, f3, f4, f5, f6, f7, f8⟩ := HR3.out.frees; clear hb3) | (go_at_call_of 24 (Value.string highS); refine (XHN2.out _ (StdW.below HS.out ((HB3.out.setCell (p := ⟨x1.heap.size, 7, none⟩) (Nat.le_of_lt hR1) (.int .i64 lo)).setCell (p := ⟨x1.heap.size, 8, none⟩) (Nat.le_of_lt hR1) (.int .i64 lo)))).mono ?_; rintro e x4 ⟨rfl, hb4⟩; have HB4 := Lib.hid (below_then ((HB3.out.setCell (p := ⟨x1.heap.size, 7, none⟩) (Nat.le_of_lt hR1) (.int .i64 lo)).setCell (p := ⟨x1.heap.size, 8, none⟩) (Nat.le_of_lt hR1) (.int .i64 lo)) ((HB3.out.setCell (p := ⟨x1.heap.size, 7, none⟩) (Nat.le_of_lt hR1) (.int .i64 lo)).setCell (p := ⟨x1.heap.size, 8, none⟩) (Nat.le_of_lt hR1) (.int .i64 lo)).size hb4); have HZ4 := Lib.hid (((HZ3.out.other ⟨x1.heap.size, 7, none⟩ hRn2 (.int .i64 lo)).other ⟨x1.heap.size, 8, none⟩ hRn2 (.int .i64 lo)).below hb4); have HR4 : Hid (Blk x4 x1.heap.size (rc true 0 0 0 0 0 ⟨#[]⟩ lo lo) _) := Lib.hid (((HR3.out.set 7 (.int .i64 lo)).set 8 (.int .i64 lo)).below hb4); have HWD4 : Hid (∀ j, (h : j < l.length) → x4.cell? ⟨w.heap.size + 1, j, none⟩ = some (.string l[j])) := Lib.hid (fun j h => pw_cell_below hb4 (by rw [World.cell?_setCell_other _ _ _ _ (by intro e; injection e with e; omega), World.cell?_setCell_other _ _ _ _ (by intro e; injection e with e; omega)]; exact HWD3.out j h)); clear wd1; have wd1 : x4.cell? ⟨w.heap.size + 1, 1, none⟩ = some (.string w1s) := (HWD4.out 1 (by have := Xh0.out; omega)).trans (by rw [(List.getElem?_eq_some_iff.1 Xhw1.out).2]); clear k0 k1 k2 k3 k4 k5 k6 k7 k8 f0 f1 f2 f3 f4 f5 f6 f7 f8; obtain ⟨k0, k1, k2, k3, k4, k5, k6, k7, k8⟩ := HR4.out.nine; obtain ⟨f0, f1, f2, f3, f4, f5, f6, f7, f8⟩ := HR4.out.frees; clear hb4) | (go_at_call_of 23 (Value.string w1s); refine (XHC1.out _ (StdW.below HS.out (HB4.out.setCell (p := ⟨x1.heap.size, 8, none⟩) (Nat.le_of_lt hR1) (.int .i64 hi2)))).mono ?_; rintro e x5 ⟨rfl, hb5⟩; have HB5 := Lib.hid (below_then (HB4.out.setCell (p := ⟨x1.heap.size, 8, none⟩) (Nat.le_of_lt hR1) (.int .i64 hi2)) (HB4.out.setCell (p := ⟨x1.heap.size, 8, none⟩) (Nat.le_of_lt hR1) (.int .i64 hi2)).size hb5); have HZ5 := Lib.hid ((HZ4.out.other ⟨x1.heap.size, 8, none⟩ hRn2 (.int .i64 hi2)).below hb5); have HR5 : Hid (Blk x5 x1.heap.size (rc true 0 0 0 0 0 ⟨#[]⟩ lo hi2) _) := Lib.hid ((HR4.out.set 8 (.int .i64 hi2)).below hb5); have HWD5 : Hid (∀ j, (h : j < l.length) → x5.cell? ⟨w.heap.size + 1, j, none⟩ = some (.string l[j])) := Lib.hid (fun j h => pw_cell_below hb5 (by rw [World.cell?_setCell_other _ _ _ _ (by intro e; injection e with e; omega)]; exact HWD4.out j h)); clear wd1; have wd1 : x5.cell? ⟨w.heap.size + 1, 1, none⟩ = some (.string w1s) := (HWD5.out 1 (by have := Xh0.out; omega)).trans (by rw [(List.getElem?_eq_some_iff.1 Xhw1.out).2]); clear k0 k1 k2 k3 k4 k5 k6 k7 k8 f0 f1 f2 f3 f4 f5 f6 f7 f8; obtain ⟨k0, k1, k2, k3, k4, k5, k6, k7, k8⟩ := HR5.out.nine; obtain ⟨f0, f1, f2, f3, f4, f5, f6, f7, f8⟩ := HR5.out.frees; clear hb5) | (go_at_call_of 24 (Value.string nS); refine (XHN3.out _ (StdW.below HS.out HB5.out)).mono ?_; rintro e x6 ⟨rfl, hb6⟩; have HB6 := Lib.hid (below_then HB5.out HB5.out.size hb6); have HZ6 := Lib.hid (HZ5.out.below hb6); have HR6 := Lib.hid (HR5.out.below hb6); clear k0 k1 k2 k3 k4 k5 k6 k7 k8 f0 f1 f2 f3 f4 f5 f6 f7 f8; obtain ⟨k0, k1, k2, k3, k4, k5, k6, k7, k8⟩ := HR6.out.nine; obtain ⟨f0, f1, f2, f3, f4, f5, f6, f7, f8⟩ := HR6.out.frees; clear hb6) | (go_at_call 25; refine (XHPA.out _ (StdW.below HS.out (HB6.out.setCell (p := ⟨x1.heap.size, 5, none⟩) (Nat.le_of_lt hR1) (.int .i64 bi)))).mono ?_; rintro e x7 ⟨⟨eb, rfl⟩, hb7⟩; have HB7 := Lib.hid (below_then (HB6.out.setCell (p := ⟨x1.heap.size, 5, none⟩) (Nat.le_of_lt hR1) (.int .i64 bi)) (HB6.out.setCell (p := ⟨x1.heap.size, 5, none⟩) (Nat.le_of_lt hR1) (.int .i64 bi)).size hb7); have HZ7 := Lib.hid ((HZ6.out.other ⟨x1.heap.size, 5, none⟩ hRn2 (.int .i64 bi)).below hb7); have HR7 : Hid (Blk x7 x1.heap.size (rc true 0 0 0 0 bi ⟨#[]⟩ lo hi2) _) := Lib.hid ((HR6.out.set 5 (.int .i64 bi)).below hb7); clear k0 k1 k2 k3 k4 k5 k6 k7 k8 f0 f1 f2 f3 f4 f5 f6 f7 f8; obtain ⟨k0, k1, k2, k3, k4, k5, k6, k7, k8⟩ := HR7.out.nine; obtain ⟨f0, f1, f2, f3, f4, f5, f6, f7, f8⟩ := HR7.out.frees; obtain ⟨z0, z1, z2, z3, z4, z5, z6, z7, z8⟩ := HZ7.out.nine; obtain ⟨g0, g1, g2, g3, g4, g5, g6, g7, g8⟩ := HZ7.out.frees; clear hb7) | (go_at_call 18; refine (XHRT.out _ (StdW.below HS.out ((((HB7.out.setCell (p := ⟨x1.heap.size, 1, none⟩) (Nat.le_of_lt hR1) (.int .u8 0)).setCell (p := ⟨x1.heap.size, 2, none⟩) (Nat.le_of_lt hR1) (.int .u8 0)).setCell (p := ⟨x1.heap.size, 3, none⟩) (Nat.le_of_lt hR1) (.int .u8 0)).setCell (p := ⟨x1.heap.size, 4, none⟩) (Nat.le_of_lt hR1) (.int .u8 0)))).mono ?_; rintro e x8 ⟨rfl, hb8⟩; have HB8 := Lib.hid (below_then ((((HB7.out.setCell (p := ⟨x1.heap.size, 1, none⟩) (Nat.le_of_lt hR1) (.int .u8 0)).setCell (p := ⟨x1.heap.size, 2, none⟩) (Nat.le_of_lt hR1) (.int .u8 0)).setCell (p := ⟨x1.heap.size, 3, none⟩) (Nat.le_of_lt hR1) (.int .u8 0)).setCell (p := ⟨x1.heap.size, 4, none⟩) (Nat.le_of_lt hR1) (.int .u8 0)) ((((HB7.out.setCell (p := ⟨x1.heap.size, 1, none⟩) (Nat.le_of_lt hR1) (.int .u8 0)).setCell (p := ⟨x1.heap.size, 2, none⟩) (Nat.le_of_lt hR1) (.int .u8 0)).setCell (p := ⟨x1.heap.size, 3, none⟩) (Nat.le_of_lt hR1) (.int .u8 0)).setCell (p := ⟨x1.heap.size, 4, none⟩) (Nat.le_of_lt hR1) (.int .u8 0)).size hb8); have HZ8 := Lib.hid (((((HZ7.out.other ⟨x1.heap.size, 1, none⟩ hRn2 (.int .u8 0)).other ⟨x1.heap.size, 2, none⟩ hRn2 (.int .u8 0)).other ⟨x1.heap.size, 3, none⟩ hRn2 (.int .u8 0)).other ⟨x1.heap.size, 4, none⟩ hRn2 (.int .u8 0)).below hb8); have HR8 : Hid (Blk x8 x1.heap.size (rc true 0 0 0 0 bi ⟨#[]⟩ lo hi2) _) := Lib.hid (((((HR7.out.set 1 (.int .u8 0)).set 2 (.int .u8 0)).set 3 (.int .u8 0)).set 4 (.int .u8 0)).below hb8); clear k0 k1 k2 k3 k4 k5 k6 k7 k8 f0 f1 f2 f3 f4 f5 f6 f7 f8; clear z0 z1 z2 z3 z4 z5 z6 z7 z8 g0 g1 g2 g3 g4 g5 g6 g7 g8; obtain ⟨k0, k1, k2, k3, k4, k5, k6, k7, k8⟩ := HR8.out.nine; obtain ⟨f0, f1, f2, f3, f4, f5, f6, f7, f8⟩ := HR8.out.frees; obtain ⟨z0, z1, z2, z3, z4, z5, z6, z7, z8⟩ := HZ8.out.nine; obtain ⟨g0, g1, g2, g3, g4, g5, g6, g7, g8⟩ := HZ8.out.frees; clear hb8))
      all_goals
        refine bodyPost_ret (v := zeroRule) (by simp [results, Tryd.results11, go_sem, zeroRule, rc, z0, z1, z2, z3, z4, z5, z6, z7, z8, hRn1, hRn2]) rfl ⟨rfl, ?_⟩
        repeat (refine Below.setCell ?_ (by first | exact Nat.le_refl _ | exact Nat.le_of_lt hR1) _)
        exact HB7.out
    · cases okB
      · go_enter Tryd.func11, Tryd.ntmps11
        go_wp2_with (first | (go_at_call 22; refine (XHSP.out _ (StdW.below HS.out (below_alloc (Below.refl _ _) _))).mono ?_; rintro e x1 ⟨rfl, hc, hlt1, hb1⟩; have HB1 := Lib.hid (below_then (below_alloc (Below.refl w.heap.size w) _) (below_alloc (Below.refl w.heap.size w) _).size hb1); have hR1 : w.heap.size < x1.heap.size := (by have := hb1.size; simp at this; omega); have hRn1 : ¬ x1.heap.size = w.heap.size := (by omega); have hRn2 : ¬ w.heap.size = x1.heap.size := (by omega); have HZ1 := Lib.hid ((Blk.new w (rc false 0 0 0 0 0 ⟨#[]⟩ 0 0) _).below hb1); have HWD1 : Hid (∀ j, (h : j < l.length) → x1.cell? ⟨w.heap.size + 1, j, none⟩ = some (.string l[j])) := Lib.hid (fun j h => by have := hc j h; rw [World.size_alloc] at this; exact this); have wd0 : x1.cell? ⟨w.heap.size + 1, 0, none⟩ = some (.string w0) := (HWD1.out 0 (by have := Xh0.out; omega)).trans (by rw [(List.getElem?_eq_some_iff.1 Xhw0.out).2]); have wd2 : x1.cell? ⟨w.heap.size + 1, 2, none⟩ = some (.string w2s) := (HWD1.out 2 (by have := Xh0.out; omega)).trans (by rw [(List.getElem?_eq_some_iff.1 Xhw2.out).2]); have hwl : w.heap.size + 1 < x1.heap.size := (by simpa using hlt1); clear hc hlt1 hb1) | (go_at_call_of 23 (Value.string w2s); refine (XHC2.out _ (StdW.below HS.out (below_alloc HB1.out _))).mono ?_; rintro e x2 ⟨rfl, hb2⟩; have HB2 := Lib.hid (below_then (below_alloc HB1.out _) (below_alloc HB1.out _).size hb2); have HZ2 := Lib.hid ((HZ1.out.old _).below hb2); have HR2 : Hid (Blk x2 x1.heap.size (rc true 0 0 0 0 0 ⟨#[]⟩ 0 0) _) := Lib.hid ((Blk.new x1 (rc true 0 0 0 0 0 ⟨#[]⟩ 0 0) _).below hb2); have HWD2 : Hid (∀ j, (h : j < l.length) → x2.cell? ⟨w.heap.size + 1, j, none⟩ = some (.string l[j])) := Lib.hid (fun j h => pw_cell_below hb2 (pw_cell_below (below_alloc (Below.refl _ _) _) (HWD1.out j h))); clear hb2 wd0 wd2) | (go_at_call_of 24 (Value.string lowS); refine (XHN1.out _ (StdW.below HS.out HB2.out)).mono ?_; rintro e x3 ⟨rfl, hb3⟩; have HB3 := Lib.hid (below_then HB2.out HB2.out.size hb3); have HZ3 := Lib.hid (HZ2.out.below hb3); have HR3 := Lib.hid (HR2.out.below hb3); have HWD3 : Hid (∀ j, (h : j < l.length) → x3.cell? ⟨w.heap.size + 1, j, none⟩ = some (.string l[j])) := Lib.hid (fun j h => pw_cell_below hb3 (HWD2.out j h)); have wd1 : x3.cell? ⟨w.heap.size + 1, 1, none⟩ = some (.string w1s) := (HWD3.out 1 (by have := Xh0.out; omega)).trans (by rw [(List.getElem?_eq_some_iff.1 Xhw1.out).2]); obtain ⟨k0, k1, k2, k3, k4, k5, k6, k7, k8⟩ := HR3.out.nine; obtain ⟨f0, f1, f2, f3, f4, f5, f6, f7, f8⟩ := HR3.out.frees; clear hb3) | (go_at_call_of 24 (Value.string highS); refine (XHN2.out _ (StdW.below HS.out ((HB3.out.setCell (p := ⟨x1.heap.size, 7, none⟩) (Nat.le_of_lt hR1) (.int .i64 lo)).setCell (p := ⟨x1.heap.size, 8, none⟩) (Nat.le_of_lt hR1) (.int .i64 lo)))).mono ?_; rintro e x4 ⟨rfl, hb4⟩; have HB4 := Lib.hid (below_then ((HB3.out.setCell (p := ⟨x1.heap.size, 7, none⟩) (Nat.le_of_lt hR1) (.int .i64 lo)).setCell (p := ⟨x1.heap.size, 8, none⟩) (Nat.le_of_lt hR1) (.int .i64 lo)) ((HB3.out.setCell (p := ⟨x1.heap.size, 7, none⟩) (Nat.le_of_lt hR1) (.int .i64 lo)).setCell (p := ⟨x1.heap.size, 8, none⟩) (Nat.le_of_lt hR1) (.int .i64 lo)).size hb4); have HZ4 := Lib.hid (((HZ3.out.other ⟨x1.heap.size, 7, none⟩ hRn2 (.int .i64 lo)).other ⟨x1.heap.size, 8, none⟩ hRn2 (.int .i64 lo)).below hb4); have HR4 : Hid (Blk x4 x1.heap.size (rc true 0 0 0 0 0 ⟨#[]⟩ lo lo) _) := Lib.hid (((HR3.out.set 7 (.int .i64 lo)).set 8 (.int .i64 lo)).below hb4); have HWD4 : Hid (∀ j, (h : j < l.length) → x4.cell? ⟨w.heap.size + 1, j, none⟩ = some (.string l[j])) := Lib.hid (fun j h => pw_cell_below hb4 (by rw [World.cell?_setCell_other _ _ _ _ (by intro e; injection e with e; omega), World.cell?_setCell_other _ _ _ _ (by intro e; injection e with e; omega)]; exact HWD3.out j h)); clear wd1; have wd1 : x4.cell? ⟨w.heap.size + 1, 1, none⟩ = some (.string w1s) := (HWD4.out 1 (by have := Xh0.out; omega)).trans (by rw [(List.getElem?_eq_some_iff.1 Xhw1.out).2]); clear k0 k1 k2 k3 k4 k5 k6 k7 k8 f0 f1 f2 f3 f4 f5 f6 f7 f8; obtain ⟨k0, k1, k2, k3, k4, k5, k6, k7, k8⟩ := HR4.out.nine; obtain ⟨f0, f1, f2, f3, f4, f5, f6, f7, f8⟩ := HR4.out.frees; clear hb4) | (go_at_call_of 23 (Value.string w1s); refine (XHC1.out _ (StdW.below HS.out (HB4.out.setCell (p := ⟨x1.heap.size, 8, none⟩) (Nat.le_of_lt hR1) (.int .i64 hi2)))).mono ?_; rintro e x5 ⟨rfl, hb5⟩; have HB5 := Lib.hid (below_then (HB4.out.setCell (p := ⟨x1.heap.size, 8, none⟩) (Nat.le_of_lt hR1) (.int .i64 hi2)) (HB4.out.setCell (p := ⟨x1.heap.size, 8, none⟩) (Nat.le_of_lt hR1) (.int .i64 hi2)).size hb5); have HZ5 := Lib.hid ((HZ4.out.other ⟨x1.heap.size, 8, none⟩ hRn2 (.int .i64 hi2)).below hb5); have HR5 : Hid (Blk x5 x1.heap.size (rc true 0 0 0 0 0 ⟨#[]⟩ lo hi2) _) := Lib.hid ((HR4.out.set 8 (.int .i64 hi2)).below hb5); have HWD5 : Hid (∀ j, (h : j < l.length) → x5.cell? ⟨w.heap.size + 1, j, none⟩ = some (.string l[j])) := Lib.hid (fun j h => pw_cell_below hb5 (by rw [World.cell?_setCell_other _ _ _ _ (by intro e; injection e with e; omega)]; exact HWD4.out j h)); clear wd1; have wd1 : x5.cell? ⟨w.heap.size + 1, 1, none⟩ = some (.string w1s) := (HWD5.out 1 (by have := Xh0.out; omega)).trans (by rw [(List.getElem?_eq_some_iff.1 Xhw1.out).2]); clear k0 k1 k2 k3 k4 k5 k6 k7 k8 f0 f1 f2 f3 f4 f5 f6 f7 f8; obtain ⟨k0, k1, k2, k3, k4, k5, k6, k7, k8⟩ := HR5.out.nine; obtain ⟨f0, f1, f2, f3, f4, f5, f6, f7, f8⟩ := HR5.out.frees; clear hb5) | (go_at_call_of 24 (Value.string nS); refine (XHN3.out _ (StdW.below HS.out HB5.out)).mono ?_; rintro e x6 ⟨rfl, hb6⟩; have HB6 := Lib.hid (below_then HB5.out HB5.out.size hb6); have HZ6 := Lib.hid (HZ5.out.below hb6); have HR6 := Lib.hid (HR5.out.below hb6); clear k0 k1 k2 k3 k4 k5 k6 k7 k8 f0 f1 f2 f3 f4 f5 f6 f7 f8; obtain ⟨k0, k1, k2, k3, k4, k5, k6, k7, k8⟩ := HR6.out.nine; obtain ⟨f0, f1, f2, f3, f4, f5, f6, f7, f8⟩ := HR6.out.frees; clear hb6) | (go_at_call 25; refine (XHPA.out _ (StdW.below HS.out (HB6.out.setCell (p := ⟨x1.heap.size, 5, none⟩) (Nat.le_of_lt hR1) (.int .i64 bi)))).mono ?_; rintro e x7 ⟨⟨eb, rfl⟩, hb7⟩; have HB7 := Lib.hid (below_then (HB6.out.setCell (p := ⟨x1.heap.size, 5, none⟩) (Nat.le_of_lt hR1) (.int .i64 bi)) (HB6.out.setCell (p := ⟨x1.heap.size, 5, none⟩) (Nat.le_of_lt hR1) (.int .i64 bi)).size hb7); have HZ7 := Lib.hid ((HZ6.out.other ⟨x1.heap.size, 5, none⟩ hRn2 (.int .i64 bi)).below hb7); have HR7 : Hid (Blk x7 x1.heap.size (rc true 0 0 0 0 bi ⟨#[]⟩ lo hi2) _) := Lib.hid ((HR6.out.set 5 (.int .i64 bi)).below hb7); clear k0 k1 k2 k3 k4 k5 k6 k7 k8 f0 f1 f2 f3 f4 f5 f6 f7 f8; obtain ⟨k0, k1, k2, k3, k4, k5, k6, k7, k8⟩ := HR7.out.nine; obtain ⟨f0, f1, f2, f3, f4, f5, f6, f7, f8⟩ := HR7.out.frees; obtain ⟨z0, z1, z2, z3, z4, z5, z6, z7, z8⟩ := HZ7.out.nine; obtain ⟨g0, g1, g2, g3, g4, g5, g6, g7, g8⟩ := HZ7.out.frees; clear hb7) | (go_at_call 18; refine (XHRT.out _ (StdW.below HS.out ((((HB7.out.setCell (p := ⟨x1.heap.size, 1, none⟩) (Nat.le_of_lt hR1) (.int .u8 0)).setCell (p := ⟨x1.heap.size, 2, none⟩) (Nat.le_of_lt hR1) (.int .u8 0)).setCell (p := ⟨x1.heap.size, 3, none⟩) (Nat.le_of_lt hR1) (.int .u8 0)).setCell (p := ⟨x1.heap.size, 4, none⟩) (Nat.le_of_lt hR1) (.int .u8 0)))).mono ?_; rintro e x8 ⟨rfl, hb8⟩; have HB8 := Lib.hid (below_then ((((HB7.out.setCell (p := ⟨x1.heap.size, 1, none⟩) (Nat.le_of_lt hR1) (.int .u8 0)).setCell (p := ⟨x1.heap.size, 2, none⟩) (Nat.le_of_lt hR1) (.int .u8 0)).setCell (p := ⟨x1.heap.size, 3, none⟩) (Nat.le_of_lt hR1) (.int .u8 0)).setCell (p := ⟨x1.heap.size, 4, none⟩) (Nat.le_of_lt hR1) (.int .u8 0)) ((((HB7.out.setCell (p := ⟨x1.heap.size, 1, none⟩) (Nat.le_of_lt hR1) (.int .u8 0)).setCell (p := ⟨x1.heap.size, 2, none⟩) (Nat.le_of_lt hR1) (.int .u8 0)).setCell (p := ⟨x1.heap.size, 3, none⟩) (Nat.le_of_lt hR1) (.int .u8 0)).setCell (p := ⟨x1.heap.size, 4, none⟩) (Nat.le_of_lt hR1) (.int .u8 0)).size hb8); have HZ8 := Lib.hid (((((HZ7.out.other ⟨x1.heap.size, 1, none⟩ hRn2 (.int .u8 0)).other ⟨x1.heap.size, 2, none⟩ hRn2 (.int .u8 0)).other ⟨x1.heap.size, 3, none⟩ hRn2 (.int .u8 0)).other ⟨x1.heap.size, 4, none⟩ hRn2 (.int .u8 0)).below hb8); have HR8 : Hid (Blk x8 x1.heap.size (rc true 0 0 0 0 bi ⟨#[]⟩ lo hi2) _) := Lib.hid (((((HR7.out.set 1 (.int .u8 0)).set 2 (.int .u8 0)).set 3 (.int .u8 0)).set 4 (.int .u8 0)).below hb8); clear k0 k1 k2 k3 k4 k5 k6 k7 k8 f0 f1 f2 f3 f4 f5 f6 f7 f8; clear z0 z1 z2 z3 z4 z5 z6 z7 z8 g0 g1 g2 g3 g4 g5 g6 g7 g8; obtain ⟨k0, k1, k2, k3, k4, k5, k6, k7, k8⟩ := HR8.out.nine; obtain ⟨f0, f1, f2, f3, f4, f5, f6, f7, f8⟩ := HR8.out.frees; obtain ⟨z0, z1, z2, z3, z4, z5, z6, z7, z8⟩ := HZ8.out.nine; obtain ⟨g0, g1, g2, g3, g4, g5, g6, g7, g8⟩ := HZ8.out.frees; clear hb8))
        all_goals
          refine bodyPost_ret (v := zeroRule) (by simp [results, Tryd.results11, go_sem, zeroRule, rc, z0, z1, z2, z3, z4, z5, z6, z7, z8, hRn1, hRn2]) rfl ⟨rfl, ?_⟩
          repeat (refine Below.setCell ?_ (by first | exact Nat.le_refl _ | exact Nat.le_of_lt hR1) _)
          exact HB7.out
      · cases ne
        · go_enter Tryd.func11, Tryd.ntmps11
          go_wp2_with (first | (go_at_call 22; refine (XHSP.out _ (StdW.below HS.out (below_alloc (Below.refl _ _) _))).mono ?_; rintro e x1 ⟨rfl, hc, hlt1, hb1⟩; have HB1 := Lib.hid (below_then (below_alloc (Below.refl w.heap.size w) _) (below_alloc (Below.refl w.heap.size w) _).size hb1); have hR1 : w.heap.size < x1.heap.size := (by have := hb1.size; simp at this; omega); have hRn1 : ¬ x1.heap.size = w.heap.size := (by omega); have hRn2 : ¬ w.heap.size = x1.heap.size := (by omega); have HZ1 := Lib.hid ((Blk.new w (rc false 0 0 0 0 0 ⟨#[]⟩ 0 0) _).below hb1); have HWD1 : Hid (∀ j, (h : j < l.length) → x1.cell? ⟨w.heap.size + 1, j, none⟩ = some (.string l[j])) := Lib.hid (fun j h => by have := hc j h; rw [World.size_alloc] at this; exact this); have wd0 : x1.cell? ⟨w.heap.size + 1, 0, none⟩ = some (.string w0) := (HWD1.out 0 (by have := Xh0.out; omega)).trans (by rw [(List.getElem?_eq_some_iff.1 Xhw0.out).2]); have wd2 : x1.cell? ⟨w.heap.size + 1, 2, none⟩ = some (.string w2s) := (HWD1.out 2 (by have := Xh0.out; omega)).trans (by rw [(List.getElem?_eq_some_iff.1 Xhw2.out).2]); have hwl : w.heap.size + 1 < x1.heap.size := (by simpa using hlt1); clear hc hlt1 hb1) | (go_at_call_of 23 (Value.string w2s); refine (XHC2.out _ (StdW.below HS.out (below_alloc HB1.out _))).mono ?_; rintro e x2 ⟨rfl, hb2⟩; have HB2 := Lib.hid (below_then (below_alloc HB1.out _) (below_alloc HB1.out _).size hb2); have HZ2 := Lib.hid ((HZ1.out.old _).below hb2); have HR2 : Hid (Blk x2 x1.heap.size (rc true 0 0 0 0 0 ⟨#[]⟩ 0 0) _) := Lib.hid ((Blk.new x1 (rc true 0 0 0 0 0 ⟨#[]⟩ 0 0) _).below hb2); have HWD2 : Hid (∀ j, (h : j < l.length) → x2.cell? ⟨w.heap.size + 1, j, none⟩ = some (.string l[j])) := Lib.hid (fun j h => pw_cell_below hb2 (pw_cell_below (below_alloc (Below.refl _ _) _) (HWD1.out j h))); clear hb2 wd0 wd2) | (go_at_call_of 24 (Value.string lowS); refine (XHN1.out _ (StdW.below HS.out HB2.out)).mono ?_; rintro e x3 ⟨rfl, hb3⟩; have HB3 := Lib.hid (below_then HB2.out HB2.out.size hb3); have HZ3 := Lib.hid (HZ2.out.below hb3); have HR3 := Lib.hid (HR2.out.below hb3); have HWD3 : Hid (∀ j, (h : j < l.length) → x3.cell? ⟨w.heap.size + 1, j, none⟩ = some (.string l[j])) := Lib.hid (fun j h => pw_cell_below hb3 (HWD2.out j h)); have wd1 : x3.cell? ⟨w.heap.size + 1, 1, none⟩ = some (.string w1s) := (HWD3.out 1 (by have := Xh0.out; omega)).trans (by rw [(List.getElem?_eq_some_iff.1 Xhw1.out).2]); obtain ⟨k0, k1, k2, k3, k4, k5, k6, k7, k8⟩ := HR3.out.nine; obtain ⟨f0, f1, f2, f3, f4, f5, f6, f7, f8⟩ := HR3.out.frees; clear hb3) | (go_at_call_of 24 (Value.string highS); refine (XHN2.out _ (StdW.below HS.out ((HB3.out.setCell (p := ⟨x1.heap.size, 7, none⟩) (Nat.le_of_lt hR1) (.int .i64 lo)).setCell (p := ⟨x1.heap.size, 8, none⟩) (Nat.le_of_lt hR1) (.int .i64 lo)))).mono ?_; rintro e x4 ⟨rfl, hb4⟩; have HB4 := Lib.hid (below_then ((HB3.out.setCell (p := ⟨x1.heap.size, 7, none⟩) (Nat.le_of_lt hR1) (.int .i64 lo)).setCell (p := ⟨x1.heap.size, 8, none⟩) (Nat.le_of_lt hR1) (.int .i64 lo)) ((HB3.out.setCell (p := ⟨x1.heap.size, 7, none⟩) (Nat.le_of_lt hR1) (.int .i64 lo)).setCell (p := ⟨x1.heap.size, 8, none⟩) (Nat.le_of_lt hR1) (.int .i64 lo)).size hb4); have HZ4 := Lib.hid (((HZ3.out.other ⟨x1.heap.size, 7, none⟩ hRn2 (.int .i64 lo)).other ⟨x1.heap.size, 8, none⟩ hRn2 (.int .i64 lo)).below hb4); have HR4 : Hid (Blk x4 x1.heap.size (rc true 0 0 0 0 0 ⟨#[]⟩ lo lo) _) := Lib.hid (((HR3.out.set 7 (.int .i64 lo)).set 8 (.int .i64 lo)).below hb4); have HWD4 : Hid (∀ j, (h : j < l.length) → x4.cell? ⟨w.heap.size + 1, j, none⟩ = some (.string l[j])) := Lib.hid (fun j h => pw_cell_below hb4 (by rw [World.cell?_setCell_other _ _ _ _ (by intro e; injection e with e; omega), World.cell?_setCell_other _ _ _ _ (by intro e; injection e with e; omega)]; exact HWD3.out j h)); clear wd1; have wd1 : x4.cell? ⟨w.heap.size + 1, 1, none⟩ = some (.string w1s) := (HWD4.out 1 (by have := Xh0.out; omega)).trans (by rw [(List.getElem?_eq_some_iff.1 Xhw1.out).2]); clear k0 k1 k2 k3 k4 k5 k6 k7 k8 f0 f1 f2 f3 f4 f5 f6 f7 f8; obtain ⟨k0, k1, k2, k3, k4, k5, k6, k7, k8⟩ := HR4.out.nine; obtain ⟨f0, f1, f2, f3, f4, f5, f6, f7, f8⟩ := HR4.out.frees; clear hb4) | (go_at_call_of 23 (Value.string w1s); refine (XHC1.out _ (StdW.below HS.out (HB4.out.setCell (p := ⟨x1.heap.size, 8, none⟩) (Nat.le_of_lt hR1) (.int .i64 hi2)))).mono ?_; rintro e x5 ⟨rfl, hb5⟩; have HB5 := Lib.hid (below_then (HB4.out.setCell (p := ⟨x1.heap.size, 8, none⟩) (Nat.le_of_lt hR1) (.int .i64 hi2)) (HB4.out.setCell (p := ⟨x1.heap.size, 8, none⟩) (Nat.le_of_lt hR1) (.int .i64 hi2)).size hb5); have HZ5 := Lib.hid ((HZ4.out.other ⟨x1.heap.size, 8, none⟩ hRn2 (.int .i64 hi2)).below hb5); have HR5 : Hid (Blk x5 x1.heap.size (rc true 0 0 0 0 0 ⟨#[]⟩ lo hi2) _) := Lib.hid ((HR4.out.set 8 (.int .i64 hi2)).below hb5); have HWD5 : Hid (∀ j, (h : j < l.length) → x5.cell? ⟨w.heap.size + 1, j, none⟩ = some (.string l[j])) := Lib.hid (fun j h => pw_cell_below hb5 (by rw [World.cell?_setCell_other _ _ _ _ (by intro e; injection e with e; omega)]; exact HWD4.out j h)); clear wd1; have wd1 : x5.cell? ⟨w.heap.size + 1, 1, none⟩ = some (.string w1s) := (HWD5.out 1 (by have := Xh0.out; omega)).trans (by rw [(List.getElem?_eq_some_iff.1 Xhw1.out).2]); clear k0 k1 k2 k3 k4 k5 k6 k7 k8 f0 f1 f2 f3 f4 f5 f6 f7 f8; obtain ⟨k0, k1, k2, k3, k4, k5, k6, k7, k8⟩ := HR5.out.nine; obtain ⟨f0, f1, f2, f3, f4, f5, f6, f7, f8⟩ := HR5.out.frees; clear hb5) | (go_at_call_of 24 (Value.string nS); refine (XHN3.out _ (StdW.below HS.out HB5.out)).mono ?_; rintro e x6 ⟨rfl, hb6⟩; have HB6 := Lib.hid (below_then HB5.out HB5.out.size hb6); have HZ6 := Lib.hid (HZ5.out.below hb6); have HR6 := Lib.hid (HR5.out.below hb6); clear k0 k1 k2 k3 k4 k5 k6 k7 k8 f0 f1 f2 f3 f4 f5 f6 f7 f8; obtain ⟨k0, k1, k2, k3, k4, k5, k6, k7, k8⟩ := HR6.out.nine; obtain ⟨f0, f1, f2, f3, f4, f5, f6, f7, f8⟩ := HR6.out.frees; clear hb6) | (go_at_call 25; refine (XHPA.out _ (StdW.below HS.out (HB6.out.setCell (p := ⟨x1.heap.size, 5, none⟩) (Nat.le_of_lt hR1) (.int .i64 bi)))).mono ?_; rintro e x7 ⟨⟨eb, rfl⟩, hb7⟩; have HB7 := Lib.hid (below_then (HB6.out.setCell (p := ⟨x1.heap.size, 5, none⟩) (Nat.le_of_lt hR1) (.int .i64 bi)) (HB6.out.setCell (p := ⟨x1.heap.size, 5, none⟩) (Nat.le_of_lt hR1) (.int .i64 bi)).size hb7); have HZ7 := Lib.hid ((HZ6.out.other ⟨x1.heap.size, 5, none⟩ hRn2 (.int .i64 bi)).below hb7); have HR7 : Hid (Blk x7 x1.heap.size (rc true 0 0 0 0 bi ⟨#[]⟩ lo hi2) _) := Lib.hid ((HR6.out.set 5 (.int .i64 bi)).below hb7); clear k0 k1 k2 k3 k4 k5 k6 k7 k8 f0 f1 f2 f3 f4 f5 f6 f7 f8; obtain ⟨k0, k1, k2, k3, k4, k5, k6, k7, k8⟩ := HR7.out.nine; obtain ⟨f0, f1, f2, f3, f4, f5, f6, f7, f8⟩ := HR7.out.frees; obtain ⟨z0, z1, z2, z3, z4, z5, z6, z7, z8⟩ := HZ7.out.nine; obtain ⟨g0, g1, g2, g3, g4, g5, g6, g7, g8⟩ := HZ7.out.frees; clear hb7) | (go_at_call 18; refine (XHRT.out _ (StdW.below HS.out ((((HB7.out.setCell (p := ⟨x1.heap.size, 1, none⟩) (Nat.le_of_lt hR1) (.int .u8 0)).setCell (p := ⟨x1.heap.size, 2, none⟩) (Nat.le_of_lt hR1) (.int .u8 0)).setCell (p := ⟨x1.heap.size, 3, none⟩) (Nat.le_of_lt hR1) (.int .u8 0)).setCell (p := ⟨x1.heap.size, 4, none⟩) (Nat.le_of_lt hR1) (.int .u8 0)))).mono ?_; rintro e x8 ⟨rfl, hb8⟩; have HB8 := Lib.hid (below_then ((((HB7.out.setCell (p := ⟨x1.heap.size, 1, none⟩) (Nat.le_of_lt hR1) (.int .u8 0)).setCell (p := ⟨x1.heap.size, 2, none⟩) (Nat.le_of_lt hR1) (.int .u8 0)).setCell (p := ⟨x1.heap.size, 3, none⟩) (Nat.le_of_lt hR1) (.int .u8 0)).setCell (p := ⟨x1.heap.size, 4, none⟩) (Nat.le_of_lt hR1) (.int .u8 0)) ((((HB7.out.setCell (p := ⟨x1.heap.size, 1, none⟩) (Nat.le_of_lt hR1) (.int .u8 0)).setCell (p := ⟨x1.heap.size, 2, none⟩) (Nat.le_of_lt hR1) (.int .u8 0)).setCell (p := ⟨x1.heap.size, 3, none⟩) (Nat.le_of_lt hR1) (.int .u8 0)).setCell (p := ⟨x1.heap.size, 4, none⟩) (Nat.le_of_lt hR1) (.int .u8 0)).size hb8); have HZ8 := Lib.hid (((((HZ7.out.other ⟨x1.heap.size, 1, none⟩ hRn2 (.int .u8 0)).other ⟨x1.heap.size, 2, none⟩ hRn2 (.int .u8 0)).other ⟨x1.heap.size, 3, none⟩ hRn2 (.int .u8 0)).other ⟨x1.heap.size, 4, none⟩ hRn2 (.int .u8 0)).below hb8); have HR8 : Hid (Blk x8 x1.heap.size (rc true 0 0 0 0 bi ⟨#[]⟩ lo hi2) _) := Lib.hid (((((HR7.out.set 1 (.int .u8 0)).set 2 (.int .u8 0)).set 3 (.int .u8 0)).set 4 (.int .u8 0)).below hb8); clear k0 k1 k2 k3 k4 k5 k6 k7 k8 f0 f1 f2 f3 f4 f5 f6 f7 f8; clear z0 z1 z2 z3 z4 z5 z6 z7 z8 g0 g1 g2 g3 g4 g5 g6 g7 g8; obtain ⟨k0, k1, k2, k3, k4, k5, k6, k7, k8⟩ := HR8.out.nine; obtain ⟨f0, f1, f2, f3, f4, f5, f6, f7, f8⟩ := HR8.out.frees; obtain ⟨z0, z1, z2, z3, z4, z5, z6, z7, z8⟩ := HZ8.out.nine; obtain ⟨g0, g1, g2, g3, g4, g5, g6, g7, g8⟩ := HZ8.out.frees; clear hb8))
          all_goals
            refine bodyPost_ret (v := zeroRule) (by simp [results, Tryd.results11, go_sem, zeroRule, rc, z0, z1, z2, z3, z4, z5, z6, z7, z8, hRn1, hRn2]) rfl ⟨rfl, ?_⟩
            repeat (refine Below.setCell ?_ (by first | exact Nat.le_refl _ | exact Nat.le_of_lt hR1) _)
            exact HB7.out
        · cases okN
          · go_enter Tryd.func11, Tryd.ntmps11
            go_wp2_with (first | (go_at_call 22; refine (XHSP.out _ (StdW.below HS.out (below_alloc (Below.refl _ _) _))).mono ?_; rintro e x1 ⟨rfl, hc, hlt1, hb1⟩; have HB1 := Lib.hid (below_then (below_alloc (Below.refl w.heap.size w) _) (below_alloc (Below.refl w.heap.size w) _).size hb1); have hR1 : w.heap.size < x1.heap.size := (by have := hb1.size; simp at this; omega); have hRn1 : ¬ x1.heap.size = w.heap.size := (by omega); have hRn2 : ¬ w.heap.size = x1.heap.size := (by omega); have HZ1 := Lib.hid ((Blk.new w (rc false 0 0 0 0 0 ⟨#[]⟩ 0 0) _).below hb1); have HWD1 : Hid (∀ j, (h : j < l.length) → x1.cell? ⟨w.heap.size + 1, j, none⟩ = some (.string l[j])) := Lib.hid (fun j h => by have := hc j h; rw [World.size_alloc] at this; exact this); have wd0 : x1.cell? ⟨w.heap.size + 1, 0, none⟩ = some (.string w0) := (HWD1.out 0 (by have := Xh0.out; omega)).trans (by rw [(List.getElem?_eq_some_iff.1 Xhw0.out).2]); have wd2 : x1.cell? ⟨w.heap.size + 1, 2, none⟩ = some (.string w2s) := (HWD1.out 2 (by have := Xh0.out; omega)).trans (by rw [(List.getElem?_eq_some_iff.1 Xhw2.out).2]); have hwl : w.heap.size + 1 < x1.heap.size := (by simpa using hlt1); clear hc hlt1 hb1) | (go_at_call_of 23 (Value.string w2s); refine (XHC2.out _ (StdW.below HS.out (below_alloc HB1.out _))).mono ?_; rintro e x2 ⟨rfl, hb2⟩; have HB2 := Lib.hid (below_then (below_alloc HB1.out _) (below_alloc HB1.out _).size hb2); have HZ2 := Lib.hid ((HZ1.out.old _).below hb2); have HR2 : Hid (Blk x2 x1.heap.size (rc true 0 0 0 0 0 ⟨#[]⟩ 0 0) _) := Lib.hid ((Blk.new x1 (rc true 0 0 0 0 0 ⟨#[]⟩ 0 0) _).below hb2); have HWD2 : Hid (∀ j, (h : j < l.length) → x2.cell? ⟨w.heap.size + 1, j, none⟩ = some (.string l[j])) := Lib.hid (fun j h => pw_cell_below hb2 (pw_cell_below (below_alloc (Below.refl _ _) _) (HWD1.out j h))); clear hb2 wd0 wd2) | (go_at_call_of 24 (Value.string lowS); refine (XHN1.out _ (StdW.below HS.out HB2.out)).mono ?_; rintro e x3 ⟨rfl, hb3⟩; have HB3 := Lib.hid (below_then HB2.out HB2.out.size hb3); have HZ3 := Lib.hid (HZ2.out.below hb3); have HR3 := Lib.hid (HR2.out.below hb3); have HWD3 : Hid (∀ j, (h : j < l.length) → x3.cell? ⟨w.heap.size + 1, j, none⟩ = some (.string l[j])) := Lib.hid (fun j h => pw_cell_below hb3 (HWD2.out j h)); have wd1 : x3.cell? ⟨w.heap.size + 1, 1, none⟩ = some (.string w1s) := (HWD3.out 1 (by have := Xh0.out; omega)).trans (by rw [(List.getElem?_eq_some_iff.1 Xhw1.out).2]); obtain ⟨k0, k1, k2, k3, k4, k5, k6, k7, k8⟩ := HR3.out.nine; obtain ⟨f0, f1, f2, f3, f4, f5, f6, f7, f8⟩ := HR3.out.frees; clear hb3) | (go_at_call_of 24 (Value.string highS); refine (XHN2.out _ (StdW.below HS.out ((HB3.out.setCell (p := ⟨x1.heap.size, 7, none⟩) (Nat.le_of_lt hR1) (.int .i64 lo)).setCell (p := ⟨x1.heap.size, 8, none⟩) (Nat.le_of_lt hR1) (.int .i64 lo)))).mono ?_; rintro e x4 ⟨rfl, hb4⟩; have HB4 := Lib.hid (below_then ((HB3.out.setCell (p := ⟨x1.heap.size, 7, none⟩) (Nat.le_of_lt hR1) (.int .i64 lo)).setCell (p := ⟨x1.heap.size, 8, none⟩) (Nat.le_of_lt hR1) (.int .i64 lo)) ((HB3.out.setCell (p := ⟨x1.heap.size, 7, none⟩) (Nat.le_of_lt hR1) (.int .i64 lo)).setCell (p := ⟨x1.heap.size, 8, none⟩) (Nat.le_of_lt hR1) (.int .i64 lo)).size hb4); have HZ4 := Lib.hid (((HZ3.out.other ⟨x1.heap.size, 7, none⟩ hRn2 (.int .i64 lo)).other ⟨x1.heap.size, 8, none⟩ hRn2 (.int .i64 lo)).below hb4); have HR4 : Hid (Blk x4 x1.heap.size (rc true 0 0 0 0 0 ⟨#[]⟩ lo lo) _) := Lib.hid (((HR3.out.set 7 (.int .i64 lo)).set 8 (.int .i64 lo)).below hb4); have HWD4 : Hid (∀ j, (h : j < l.length) → x4.cell? ⟨w.heap.size + 1, j, none⟩ = some (.string l[j])) := Lib.hid (fun j h => pw_cell_below hb4 (by rw [World.cell?_setCell_other _ _ _ _ (by intro e; injection e with e; omega), World.cell?_setCell_other _ _ _ _ (by intro e; injection e with e; omega)]; exact HWD3.out j h)); clear wd1; have wd1 : x4.cell? ⟨w.heap.size + 1, 1, none⟩ = some (.string w1s) := (HWD4.out 1 (by have := Xh0.out; omega)).trans (by rw [(List.getElem?_eq_some_iff.1 Xhw1.out).2]); clear k0 k1 k2 k3 k4 k5 k6 k7 k8 f0 f1 f2 f3 f4 f5 f6 f7 f8; obtain ⟨k0, k1, k2, k3, k4, k5, k6, k7, k8⟩ := HR4.out.nine; obtain ⟨f0, f1, f2, f3, f4, f5, f6, f7, f8⟩ := HR4.out.frees; clear hb4) | (go_at_call_of 23 (Value.string w1s); refine (XHC1.out _ (StdW.below HS.out (HB4.out.setCell (p := ⟨x1.heap.size, 8, none⟩) (Nat.le_of_lt hR1) (.int .i64 hi2)))).mono ?_; rintro e x5 ⟨rfl, hb5⟩; have HB5 := Lib.hid (below_then (HB4.out.setCell (p := ⟨x1.heap.size, 8, none⟩) (Nat.le_of_lt hR1) (.int .i64 hi2)) (HB4.out.setCell (p := ⟨x1.heap.size, 8, none⟩) (Nat.le_of_lt hR1) (.int .i64 hi2)).size hb5); have HZ5 := Lib.hid ((HZ4.out.other ⟨x1.heap.size, 8, none⟩ hRn2 (.int .i64 hi2)).below hb5); have HR5 : Hid (Blk x5 x1.heap.size (rc true 0 0 0 0 0 ⟨#[]⟩ lo hi2) _) := Lib.hid ((HR4.out.set 8 (.int .i64 hi2)).below hb5); have HWD5 : Hid (∀ j, (h : j < l.length) → x5.cell? ⟨w.heap.size + 1, j, none⟩ = some (.string l[j])) := Lib.hid (fun j h => pw_cell_below hb5 (by rw [World.cell?_setCell_other _ _ _ _ (by intro e; injection e with e; omega)]; exact HWD4.out j h)); clear wd1; have wd1 : x5.cell? ⟨w.heap.size + 1, 1, none⟩ = some (.string w1s) := (HWD5.out 1 (by have := Xh0.out; omega)).trans (by rw [(List.getElem?_eq_some_iff.1 Xhw1.out).2]); clear k0 k1 k2 k3 k4 k5 k6 k7 k8 f0 f1 f2 f3 f4 f5 f6 f7 f8; obtain ⟨k0, k1, k2, k3, k4, k5, k6, k7, k8⟩ := HR5.out.nine; obtain ⟨f0, f1, f2, f3, f4, f5, f6, f7, f8⟩ := HR5.out.frees; clear hb5) | (go_at_call_of 24 (Value.string nS); refine (XHN3.out _ (StdW.below HS.out HB5.out)).mono ?_; rintro e x6 ⟨rfl, hb6⟩; have HB6 := Lib.hid (below_then HB5.out HB5.out.size hb6); have HZ6 := Lib.hid (HZ5.out.below hb6); have HR6 := Lib.hid (HR5.out.below hb6); clear k0 k1 k2 k3 k4 k5 k6 k7 k8 f0 f1 f2 f3 f4 f5 f6 f7 f8; obtain ⟨k0, k1, k2, k3, k4, k5, k6, k7, k8⟩ := HR6.out.nine; obtain ⟨f0, f1, f2, f3, f4, f5, f6, f7, f8⟩ := HR6.out.frees; clear hb6) | (go_at_call 25; refine (XHPA.out _ (StdW.below HS.out (HB6.out.setCell (p := ⟨x1.heap.size, 5, none⟩) (Nat.le_of_lt hR1) (.int .i64 bi)))).mono ?_; rintro e x7 ⟨⟨eb, rfl⟩, hb7⟩; have HB7 := Lib.hid (below_then (HB6.out.setCell (p := ⟨x1.heap.size, 5, none⟩) (Nat.le_of_lt hR1) (.int .i64 bi)) (HB6.out.setCell (p := ⟨x1.heap.size, 5, none⟩) (Nat.le_of_lt hR1) (.int .i64 bi)).size hb7); have HZ7 := Lib.hid ((HZ6.out.other ⟨x1.heap.size, 5, none⟩ hRn2 (.int .i64 bi)).below hb7); have HR7 : Hid (Blk x7 x1.heap.size (rc true 0 0 0 0 bi ⟨#[]⟩ lo hi2) _) := Lib.hid ((HR6.out.set 5 (.int .i64 bi)).below hb7); clear k0 k1 k2 k3 k4 k5 k6 k7 k8 f0 f1 f2 f3 f4 f5 f6 f7 f8; obtain ⟨k0, k1, k2, k3, k4, k5, k6, k7, k8⟩ := HR7.out.nine; obtain ⟨f0, f1, f2, f3, f4, f5, f6, f7, f8⟩ := HR7.out.frees; obtain ⟨z0, z1, z2, z3, z4, z5, z6, z7, z8⟩ := HZ7.out.nine; obtain ⟨g0, g1, g2, g3, g4, g5, g6, g7, g8⟩ := HZ7.out.frees; clear hb7) | (go_at_call 18; refine (XHRT.out _ (StdW.below HS.out ((((HB7.out.setCell (p := ⟨x1.heap.size, 1, none⟩) (Nat.le_of_lt hR1) (.int .u8 0)).setCell (p := ⟨x1.heap.size, 2, none⟩) (Nat.le_of_lt hR1) (.int .u8 0)).setCell (p := ⟨x1.heap.size, 3, none⟩) (Nat.le_of_lt hR1) (.int .u8 0)).setCell (p := ⟨x1.heap.size, 4, none⟩) (Nat.le_of_lt hR1) (.int .u8 0)))).mono ?_; rintro e x8 ⟨rfl, hb8⟩; have HB8 := Lib.hid (below_then ((((HB7.out.setCell (p := ⟨x1.heap.size, 1, none⟩) (Nat.le_of_lt hR1) (.int .u8 0)).setCell (p := ⟨x1.heap.size, 2, none⟩) (Nat.le_of_lt hR1) (.int .u8 0)).setCell (p := ⟨x1.heap.size, 3, none⟩) (Nat.le_of_lt hR1) (.int .u8 0)).setCell (p := ⟨x1.heap.size, 4, none⟩) (Nat.le_of_lt hR1) (.int .u8 0)) ((((HB7.out.setCell (p := ⟨x1.heap.size, 1, none⟩) (Nat.le_of_lt hR1) (.int .u8 0)).setCell (p := ⟨x1.heap.size, 2, none⟩) (Nat.le_of_lt hR1) (.int .u8 0)).setCell (p := ⟨x1.heap.size, 3, none⟩) (Nat.le_of_lt hR1) (.int .u8 0)).setCell (p := ⟨x1.heap.size, 4, none⟩) (Nat.le_of_lt hR1) (.int .u8 0)).size hb8); have HZ8 := Lib.hid (((((HZ7.out.other ⟨x1.heap.size, 1, none⟩ hRn2 (.int .u8 0)).other ⟨x1.heap.size, 2, none⟩ hRn2 (.int .u8 0)).other ⟨x1.heap.size, 3, none⟩ hRn2 (.int .u8 0)).other ⟨x1.heap.size, 4, none⟩ hRn2 (.int .u8 0)).below hb8); have HR8 : Hid (Blk x8 x1.heap.size (rc true 0 0 0 0 bi ⟨#[]⟩ lo hi2) _) := Lib.hid (((((HR7.out.set 1 (.int .u8 0)).set 2 (.int .u8 0)).set 3 (.int .u8 0)).set 4 (.int .u8 0)).below hb8); clear k0 k1 k2 k3 k4 k5 k6 k7 k8 f0 f1 f2 f3 f4 f5 f6 f7 f8; clear z0 z1 z2 z3 z4 z5 z6 z7 z8 g0 g1 g2 g3 g4 g5 g6 g7 g8; obtain ⟨k0, k1, k2, k3, k4, k5, k6, k7, k8⟩ := HR8.out.nine; obtain ⟨f0, f1, f2, f3, f4, f5, f6, f7, f8⟩ := HR8.out.frees; obtain ⟨z0, z1, z2, z3, z4, z5, z6, z7, z8⟩ := HZ8.out.nine; obtain ⟨g0, g1, g2, g3, g4, g5, g6, g7, g8⟩ := HZ8.out.frees; clear hb8))
            all_goals
              refine bodyPost_ret (v := zeroRule) (by simp [results, Tryd.results11, go_sem, zeroRule, rc, z0, z1, z2, z3, z4, z5, z6, z7, z8, hRn1, hRn2]) rfl ⟨rfl, ?_⟩
              repeat (refine Below.setCell ?_ (by first | exact Nat.le_refl _ | exact Nat.le_of_lt hR1) _)
              exact HB7.out
          · go_enter Tryd.func11, Tryd.ntmps11
            go_wp2_with (first | (go_at_call 22; refine (XHSP.out _ (StdW.below HS.out (below_alloc (Below.refl _ _) _))).mono ?_; rintro e x1 ⟨rfl, hc, hlt1, hb1⟩; have HB1 := Lib.hid (below_then (below_alloc (Below.refl w.heap.size w) _) (below_alloc (Below.refl w.heap.size w) _).size hb1); have hR1 : w.heap.size < x1.heap.size := (by have := hb1.size; simp at this; omega); have hRn1 : ¬ x1.heap.size = w.heap.size := (by omega); have hRn2 : ¬ w.heap.size = x1.heap.size := (by omega); have HZ1 := Lib.hid ((Blk.new w (rc false 0 0 0 0 0 ⟨#[]⟩ 0 0) _).below hb1); have HWD1 : Hid (∀ j, (h : j < l.length) → x1.cell? ⟨w.heap.size + 1, j, none⟩ = some (.string l[j])) := Lib.hid (fun j h => by have := hc j h; rw [World.size_alloc] at this; exact this); have wd0 : x1.cell? ⟨w.heap.size + 1, 0, none⟩ = some (.string w0) := (HWD1.out 0 (by have := Xh0.out; omega)).trans (by rw [(List.getElem?_eq_some_iff.1 Xhw0.out).2]); have wd2 : x1.cell? ⟨w.heap.size + 1, 2, none⟩ = some (.string w2s) := (HWD1.out 2 (by have := Xh0.out; omega)).trans (by rw [(List.getElem?_eq_some_iff.1 Xhw2.out).2]); have hwl : w.heap.size + 1 < x1.heap.size := (by simpa using hlt1); clear hc hlt1 hb1) | (go_at_call_of 23 (Value.string w2s); refine (XHC2.out _ (StdW.below HS.out (below_alloc HB1.out _))).mono ?_; rintro e x2 ⟨rfl, hb2⟩; have HB2 := Lib.hid (below_then (below_alloc HB1.out _) (below_alloc HB1.out _).size hb2); have HZ2 := Lib.hid ((HZ1.out.old _).below hb2); have HR2 : Hid (Blk x2 x1.heap.size (rc true 0 0 0 0 0 ⟨#[]⟩ 0 0) _) := Lib.hid ((Blk.new x1 (rc true 0 0 0 0 0 ⟨#[]⟩ 0 0) _).below hb2); have HWD2 : Hid (∀ j, (h : j < l.length) → x2.cell? ⟨w.heap.size + 1, j, none⟩ = some (.string l[j])) := Lib.hid (fun j h => pw_cell_below hb2 (pw_cell_below (below_alloc (Below.refl _ _) _) (HWD1.out j h))); clear hb2 wd0 wd2) | (go_at_call_of 24 (Value.string lowS); refine (XHN1.out _ (StdW.below HS.out HB2.out)).mono ?_; rintro e x3 ⟨rfl, hb3⟩; have HB3 := Lib.hid (below_then HB2.out HB2.out.size hb3); have HZ3 := Lib.hid (HZ2.out.below hb3); have HR3 := Lib.hid (HR2.out.below hb3); have HWD3 : Hid (∀ j, (h : j < l.length) → x3.cell? ⟨w.heap.size + 1, j, none⟩ = some (.string l[j])) := Lib.hid (fun j h => pw_cell_below hb3 (HWD2.out j h)); have wd1 : x3.cell? ⟨w.heap.size + 1, 1, none⟩ = some (.string w1s) := (HWD3.out 1 (by have := Xh0.out; omega)).trans (by rw [(List.getElem?_eq_some_iff.1 Xhw1.out).2]); obtain ⟨k0, k1, k2, k3, k4, k5, k6, k7, k8⟩ := HR3.out.nine; obtain ⟨f0, f1, f2, f3, f4, f5, f6, f7, f8⟩ := HR3.out.frees; clear hb3) | (go_at_call_of 24 (Value.string highS); refine (XHN2.out _ (StdW.below HS.out ((HB3.out.setCell (p := ⟨x1.heap.size, 7, none⟩) (Nat.le_of_lt hR1) (.int .i64 lo)).setCell (p := ⟨x1.heap.size, 8, none⟩) (Nat.le_of_lt hR1) (.int .i64 lo)))).mono ?_; rintro e x4 ⟨rfl, hb4⟩; have HB4 := Lib.hid (below_then ((HB3.out.setCell (p := ⟨x1.heap.size, 7, none⟩) (Nat.le_of_lt hR1) (.int .i64 lo)).setCell (p := ⟨x1.heap.size, 8, none⟩) (Nat.le_of_lt hR1) (.int .i64 lo)) ((HB3.out.setCell (p := ⟨x1.heap.size, 7, none⟩) (Nat.le_of_lt hR1) (.int .i64 lo)).setCell (p := ⟨x1.heap.size, 8, none⟩) (Nat.le_of_lt hR1) (.int .i64 lo)).size hb4); have HZ4 := Lib.hid (((HZ3.out.other ⟨x1.heap.size, 7, none⟩ hRn2 (.int .i64 lo)).other ⟨x1.heap.size, 8, none⟩ hRn2 (.int .i64 lo)).below hb4); have HR4 : Hid (Blk x4 x1.heap.size (rc true 0 0 0 0 0 ⟨#[]⟩ lo lo) _) := Lib.hid (((HR3.out.set 7 (.int .i64 lo)).set 8 (.int .i64 lo)).below hb4); have HWD4 : Hid (∀ j, (h : j < l.length) → x4.cell? ⟨w.heap.size + 1, j, none⟩ = some (.string l[j])) := Lib.hid (fun j h => pw_cell_below hb4 (by rw [World.cell?_setCell_other _ _ _ _ (by intro e; injection e with e; omega), World.cell?_setCell_other _ _ _ _ (by intro e; injection e with e; omega)]; exact HWD3.out j h)); clear wd1; have wd1 : x4.cell? ⟨w.heap.size + 1, 1, none⟩ = some (.string w1s) := (HWD4.out 1 (by have := Xh0.out; omega)).trans (by rw [(List.getElem?_eq_some_iff.1 Xhw1.out).2]); clear k0 k1 k2 k3 k4 k5 k6 k7 k8 f0 f1 f2 f3 f4 f5 f6 f7 f8; obtain ⟨k0, k1, k2, k3, k4, k5, k6, k7, k8⟩ := HR4.out.nine; obtain ⟨f0, f1, f2, f3, f4, f5, f6, f7, f8⟩ := HR4.out.frees; clear hb4) | (go_at_call_of 23 (Value.string w1s); refine (XHC1.out _ (StdW.below HS.out (HB4.out.setCell (p := ⟨x1.heap.size, 8, none⟩) (Nat.le_of_lt hR1) (.int .i64 hi2)))).mono ?_; rintro e x5 ⟨rfl, hb5⟩; have HB5 := Lib.hid (below_then (HB4.out.setCell (p := ⟨x1.heap.size, 8, none⟩) (Nat.le_of_lt hR1) (.int .i64 hi2)) (HB4.out.setCell (p := ⟨x1.heap.size, 8, none⟩) (Nat.le_of_lt hR1) (.int .i64 hi2)).size hb5); have HZ5 := Lib.hid ((HZ4.out.other ⟨x1.heap.size, 8, none⟩ hRn2 (.int .i64 hi2)).below hb5); have HR5 : Hid (Blk x5 x1.heap.size (rc true 0 0 0 0 0 ⟨#[]⟩ lo hi2) _) := Lib.hid ((HR4.out.set 8 (.int .i64 hi2)).below hb5); have HWD5 : Hid (∀ j, (h : j < l.length) → x5.cell? ⟨w.heap.size + 1, j, none⟩ = some (.string l[j])) := Lib.hid (fun j h => pw_cell_below hb5 (by rw [World.cell?_setCell_other _ _ _ _ (by intro e; injection e with e; omega)]; exact HWD4.out j h)); clear wd1; have wd1 : x5.cell? ⟨w.heap.size + 1, 1, none⟩ = some (.string w1s) := (HWD5.out 1 (by have := Xh0.out; omega)).trans (by rw [(List.getElem?_eq_some_iff.1 Xhw1.out).2]); clear k0 k1 k2 k3 k4 k5 k6 k7 k8 f0 f1 f2 f3 f4 f5 f6 f7 f8; obtain ⟨k0, k1, k2, k3, k4, k5, k6, k7, k8⟩ := HR5.out.nine; obtain ⟨f0, f1, f2, f3, f4, f5, f6, f7, f8⟩ := HR5.out.frees; clear hb5) | (go_at_call_of 24 (Value.string nS); refine (XHN3.out _ (StdW.below HS.out HB5.out)).mono ?_; rintro e x6 ⟨rfl, hb6⟩; have HB6 := Lib.hid (below_then HB5.out HB5.out.size hb6); have HZ6 := Lib.hid (HZ5.out.below hb6); have HR6 := Lib.hid (HR5.out.below hb6); clear k0 k1 k2 k3 k4 k5 k6 k7 k8 f0 f1 f2 f3 f4 f5 f6 f7 f8; obtain ⟨k0, k1, k2, k3, k4, k5, k6, k7, k8⟩ := HR6.out.nine; obtain ⟨f0, f1, f2, f3, f4, f5, f6, f7, f8⟩ := HR6.out.frees; clear hb6) | (go_at_call 25; refine (XHPA.out _ (StdW.below HS.out (HB6.out.setCell (p := ⟨x1.heap.size, 5, none⟩) (Nat.le_of_lt hR1) (.int .i64 bi)))).mono ?_; rintro e x7 ⟨⟨eb, rfl⟩, hb7⟩; have HB7 := Lib.hid (below_then (HB6.out.setCell (p := ⟨x1.heap.size, 5, none⟩) (Nat.le_of_lt hR1) (.int .i64 bi)) (HB6.out.setCell (p := ⟨x1.heap.size, 5, none⟩) (Nat.le_of_lt hR1) (.int .i64 bi)).size hb7); have HZ7 := Lib.hid ((HZ6.out.other ⟨x1.heap.size, 5, none⟩ hRn2 (.int .i64 bi)).below hb7); have HR7 : Hid (Blk x7 x1.heap.size (rc true 0 0 0 0 bi ⟨#[]⟩ lo hi2) _) := Lib.hid ((HR6.out.set 5 (.int .i64 bi)).below hb7); clear k0 k1 k2 k3 k4 k5 k6 k7 k8 f0 f1 f2 f3 f4 f5 f6 f7 f8; obtain ⟨k0, k1, k2, k3, k4, k5, k6, k7, k8⟩ := HR7.out.nine; obtain ⟨f0, f1, f2, f3, f4, f5, f6, f7, f8⟩ := HR7.out.frees; obtain ⟨z0, z1, z2, z3, z4, z5, z6, z7, z8⟩ := HZ7.out.nine; obtain ⟨g0, g1, g2, g3, g4, g5, g6, g7, g8⟩ := HZ7.out.frees; clear hb7) | (go_at_call 18; refine (XHRT.out _ (StdW.below HS.out ((((HB7.out.setCell (p := ⟨x1.heap.size, 1, none⟩) (Nat.le_of_lt hR1) (.int .u8 0)).setCell (p := ⟨x1.heap.size, 2, none⟩) (Nat.le_of_lt hR1) (.int .u8 0)).setCell (p := ⟨x1.heap.size, 3, none⟩) (Nat.le_of_lt hR1) (.int .u8 0)).setCell (p := ⟨x1.heap.size, 4, none⟩) (Nat.le_of_lt hR1) (.int .u8 0)))).mono ?_; rintro e x8 ⟨rfl, hb8⟩; have HB8 := Lib.hid (below_then ((((HB7.out.setCell (p := ⟨x1.heap.size, 1, none⟩) (Nat.le_of_lt hR1) (.int .u8 0)).setCell (p := ⟨x1.heap.size, 2, none⟩) (Nat.le_of_lt hR1) (.int .u8 0)).setCell (p := ⟨x1.heap.size, 3, none⟩) (Nat.le_of_lt hR1) (.int .u8 0)).setCell (p := ⟨x1.heap.size, 4, none⟩) (Nat.le_of_lt hR1) (.int .u8 0)) ((((HB7.out.setCell (p := ⟨x1.heap.size, 1, none⟩) (Nat.le_of_lt hR1) (.int .u8 0)).setCell (p := ⟨x1.heap.size, 2, none⟩) (Nat.le_of_lt hR1) (.int .u8 0)).setCell (p := ⟨x1.heap.size, 3, none⟩) (Nat.le_of_lt hR1) (.int .u8 0)).setCell (p := ⟨x1.heap.size, 4, none⟩) (Nat.le_of_lt hR1) (.int .u8 0)).size hb8); have HZ8 := Lib.hid (((((HZ7.out.other ⟨x1.heap.size, 1, none⟩ hRn2 (.int .u8 0)).other ⟨x1.heap.size, 2, none⟩ hRn2 (.int .u8 0)).other ⟨x1.heap.size, 3, none⟩ hRn2 (.int .u8 0)).other ⟨x1.heap.size, 4, none⟩ hRn2 (.int .u8 0)).below hb8); have HR8 : Hid (Blk x8 x1.heap.size (rc true 0 0 0 0 bi ⟨#[]⟩ lo hi2) _) := Lib.hid (((((HR7.out.set 1 (.int .u8 0)).set 2 (.int .u8 0)).set 3 (.int .u8 0)).set 4 (.int .u8 0)).below hb8); clear k0 k1 k2 k3 k4 k5 k6 k7 k8 f0 f1 f2 f3 f4 f5 f6 f7 f8; clear z0 z1 z2 z3 z4 z5 z6 z7 z8 g0 g1 g2 g3 g4 g5 g6 g7 g8; obtain ⟨k0, k1, k2, k3, k4, k5, k6, k7, k8⟩ := HR8.out.nine; obtain ⟨f0, f1, f2, f3, f4, f5, f6, f7, f8⟩ := HR8.out.frees; obtain ⟨z0, z1, z2, z3, z4, z5, z6, z7, z8⟩ := HZ8.out.nine; obtain ⟨g0, g1, g2, g3, g4, g5, g6, g7, g8⟩ := HZ8.out.frees; clear hb8))
            all_goals
              refine bodyPost_ret (v := zeroRule) (by simp [results, Tryd.results11, go_sem, zeroRule, rc, z0, z1, z2, z3, z4, z5, z6, z7, z8, hRn1, hRn2]) rfl ⟨rfl, ?_⟩
              repeat (refine Below.setCell ?_ (by first | exact Nat.le_refl _ | exact Nat.le_of_lt hR1) _)
              exact HB7.out
end Go.Proofs.YteondnhokgmakaaDoor.E


namespace Go.Proofs.YteondnhokgmakaaDoor.E
open Go.RowKit Go.Proofs.YteondnhokgmakaaDoorW.PrintWords Go.Proofs.YteondnhokgmakaaDoorW.PrintLast
set_option linter.unusedVariables false
set_option linter.unusedSimpArgs false
set_option maxRecDepth 100000 in
set_option maxHeartbeats 40000000 in
theorem qq_1 (s w0 w1s w2s lowS highS netS nS : ByteArray) (lo : Int) (hi2 : Int) (bi : Int) (a b c d : Int) (l : List ByteArray) (hs1 : s.size ≤ 285) (hs : s.size < 4294967281)
    (HSP : ∀ W, StdW W → Calls Tryd.prog 22 #[.string s, .string ⟨#[32]⟩] W fun e w' => e = .returned (.slice (some ⟨W.heap.size, 0, none⟩) l.length l.length) ∧ (∀ j, (h : j < l.length) → w'.cell? ⟨W.heap.size, j, none⟩ = some (.string l[j])) ∧ W.heap.size < w'.heap.size ∧ Below W.heap.size W w')
    (h0 : 3 = l.length)
    (hw0 : l[0]? = some w0)
    (hw1 : l[1]? = some w1s)
    (hw2 : l[2]? = some w2s)
    (hal : (w0.toList == [97, 108, 108, 111, 119]) = false)
    (hde : false = false → (w0.toList == [100, 101, 110, 121]) = true)
    (HC2 : ∀ W, StdW W → Calls Tryd.prog 23 #[.string w2s, .string ⟨#[45]⟩] W fun e w' => e = .returned (.tuple #[.string lowS, .string highS, .bool true]) ∧ Below W.heap.size W w')
    (HN1 : ∀ W, StdW W → Calls Tryd.prog 24 #[.string lowS] W fun e w' => e = .returned (.tuple #[.int .i64 lo, .bool true]) ∧ Below W.heap.size W w')
    (HC1 : ∀ W, StdW W → Calls Tryd.prog 23 #[.string w1s, .string ⟨#[47]⟩] W fun e w' => e = .returned (.tuple #[.string netS, .string nS, .bool true]) ∧ Below W.heap.size W w')
    (HN2 : ∀ W, StdW W → Calls Tryd.prog 24 #[.string highS] W fun e w' => e = .returned (.tuple #[.int .i64 hi2, .bool true]) ∧ Below W.heap.size W w')
    (hnel : (hi2 != lo) = true)
    (HN3 : ∀ W, StdW W → Calls Tryd.prog 24 #[.string nS] W fun e w' => e = .returned (.tuple #[.int .i64 bi, .bool true]) ∧ Below W.heap.size W w')
    (HPA : ∀ W, StdW W → Calls Tryd.prog 25 #[.string netS] W fun e w' => e = .returned (.tuple #[.agg #[.int .u8 a, .int .u8 b, .int .u8 c, .int .u8 d], .nilIface]) ∧ Below W.heap.size W w')
    (HRT : ∀ W, StdW W → Calls Tryd.prog 18 #[.agg (rc false a b c d bi ⟨#[]⟩ lo hi2)] W fun e w' => e = .returned (.bool true) ∧ Below W.heap.size W w')
    (w : World) (hS : StdW w) :
    Calls Tryd.prog 11 #[.string s] w fun e w' => e = .returned (ppOut (true && ((true && true) && (true && true))) false a b c d bi ⟨#[]⟩ lo hi2) ∧ Below w.heap.size w w' := by
  have HS := Lib.hid hS
  clear hS
  have hs1' : (s.size : Int) ≤ 285 := by omega
  have hl3 : ((l.length : Int) != 3) = false := by rw [← h0]; rfl
  have hl0 : (0 : Int) < (l.length : Int) := by omega
  have hl1 : (1 : Int) < (l.length : Int) := by omega
  have hl2 : (2 : Int) < (l.length : Int) := by omega
  have XHSP := Lib.hid HSP
  have XHC2 := Lib.hid HC2
  have XHN1 := Lib.hid HN1
  have XHC1 := Lib.hid HC1
  have XHRT := Lib.hid HRT
  have Xhw0 := Lib.hid hw0
  have Xhw1 := Lib.hid hw1
  have Xhw2 := Lib.hid hw2
  have XHN2 := Lib.hid HN2
  have XHN3 := Lib.hid HN3
  have XHPA := Lib.hid HPA
  clear HSP HC2 HN1 HC1 HRT hw0 hw1 hw2 HN2 HN3 HPA
  have Xh0 := Lib.hid h0
  clear h0 hs1
  have hde' := hde rfl
  clear hde
  go_enter Tryd.func11, Tryd.ntmps11
  go_wp2_with (first | (go_at_call 22; refine (XHSP.out _ (StdW.below HS.out (below_alloc (Below.refl _ _) _))).mono ?_; rintro e x1 ⟨rfl, hc, hlt1, hb1⟩; have HB1 := Lib.hid (below_then (below_alloc (Below.refl w.heap.size w) _) (below_alloc (Below.refl w.heap.size w) _).size hb1); have hR1 : w.heap.size < x1.heap.size := (by have := hb1.size; simp at this; omega); have hRn1 : ¬ x1.heap.size = w.heap.size := (by omega); have hRn2 : ¬ w.heap.size = x1.heap.size := (by omega); have HZ1 := Lib.hid ((Blk.new w (rc false 0 0 0 0 0 ⟨#[]⟩ 0 0) _).below hb1); have HWD1 : Hid (∀ j, (h : j < l.length) → x1.cell? ⟨w.heap.size + 1, j, none⟩ = some (.string l[j])) := Lib.hid (fun j h => by have := hc j h; rw [World.size_alloc] at this; exact this); have wd0 : x1.cell? ⟨w.heap.size + 1, 0, none⟩ = some (.string w0) := (HWD1.out 0 (by have := Xh0.out; omega)).trans (by rw [(List.getElem?_eq_some_iff.1 Xhw0.out).2]); have wd2 : x1.cell? ⟨w.heap.size + 1, 2, none⟩ = some (.string w2s) := (HWD1.out 2 (by have := Xh0.out; omega)).trans (by rw [(List.getElem?_eq_some_iff.1 Xhw2.out).2]); have hwl : w.heap.size + 1 < x1.heap.size := (by simpa using hlt1); clear hc hlt1 hb1) | (go_at_call_of 23 (Value.string w2s); refine (XHC2.out _ (StdW.below HS.out (below_alloc HB1.out _))).mono ?_; rintro e x2 ⟨rfl, hb2⟩; have HB2 := Lib.hid (below_then (below_alloc HB1.out _) (below_alloc HB1.out _).size hb2); have HZ2 := Lib.hid ((HZ1.out.old _).below hb2); have HR2 : Hid (Blk x2 x1.heap.size (rc false 0 0 0 0 0 ⟨#[]⟩ 0 0) _) := Lib.hid ((Blk.new x1 (rc false 0 0 0 0 0 ⟨#[]⟩ 0 0) _).below hb2); have HWD2 : Hid (∀ j, (h : j < l.length) → x2.cell? ⟨w.heap.size + 1, j, none⟩ = some (.string l[j])) := Lib.hid (fun j h => pw_cell_below hb2 (pw_cell_below (below_alloc (Below.refl _ _) _) (HWD1.out j h))); clear hb2 wd0 wd2) | (go_at_call_of 24 (Value.string lowS); refine (XHN1.out _ (StdW.below HS.out HB2.out)).mono ?_; rintro e x3 ⟨rfl, hb3⟩; have HB3 := Lib.hid (below_then HB2.out HB2.out.size hb3); have HZ3 := Lib.hid (HZ2.out.below hb3); have HR3 := Lib.hid (HR2.out.below hb3); have HWD3 : Hid (∀ j, (h : j < l.length) → x3.cell? ⟨w.heap.size + 1, j, none⟩ = some (.string l[j])) := Lib.hid (fun j h => pw_cell_below hb3 (HWD2.out j h)); have wd1 : x3.cell? ⟨w.heap.size + 1, 1, none⟩ = some (.string w1s) := (HWD3.out 1 (by have := Xh0.out; omega)).trans (by rw [(List.getElem?_eq_some_iff.1 Xhw1.out).2]); obtain ⟨k0, k1, k2, k3, k4, k5, k6, k7, k8⟩ := HR3.out.nine; obtain ⟨f0, f1, f2, f3, f4, f5, f6, f7, f8⟩ := HR3.out.frees; clear hb3) | (go_at_call_of 24 (Value.string highS); refine (XHN2.out _ (StdW.below HS.out ((HB3.out.setCell (p := ⟨x1.heap.size, 7, none⟩) (Nat.le_of_lt hR1) (.int .i64 lo)).setCell (p := ⟨x1.heap.size, 8, none⟩) (Nat.le_of_lt hR1) (.int .i64 lo)))).mono ?_; rintro e x4 ⟨rfl, hb4⟩; have HB4 := Lib.hid (below_then ((HB3.out.setCell (p := ⟨x1.heap.size, 7, none⟩) (Nat.le_of_lt hR1) (.int .i64 lo)).setCell (p := ⟨x1.heap.size, 8, none⟩) (Nat.le_of_lt hR1) (.int .i64 lo)) ((HB3.out.setCell (p := ⟨x1.heap.size, 7, none⟩) (Nat.le_of_lt hR1) (.int .i64 lo)).setCell (p := ⟨x1.heap.size, 8, none⟩) (Nat.le_of_lt hR1) (.int .i64 lo)).size hb4); have HZ4 := Lib.hid (((HZ3.out.other ⟨x1.heap.size, 7, none⟩ hRn2 (.int .i64 lo)).other ⟨x1.heap.size, 8, none⟩ hRn2 (.int .i64 lo)).below hb4); have HR4 : Hid (Blk x4 x1.heap.size (rc false 0 0 0 0 0 ⟨#[]⟩ lo lo) _) := Lib.hid (((HR3.out.set 7 (.int .i64 lo)).set 8 (.int .i64 lo)).below hb4); have HWD4 : Hid (∀ j, (h : j < l.length) → x4.cell? ⟨w.heap.size + 1, j, none⟩ = some (.string l[j])) := Lib.hid (fun j h => pw_cell_below hb4 (by rw [World.cell?_setCell_other _ _ _ _ (by intro e; injection e with e; omega), World.cell?_setCell_other _ _ _ _ (by intro e; injection e with e; omega)]; exact HWD3.out j h)); clear wd1; have wd1 : x4.cell? ⟨w.heap.size + 1, 1, none⟩ = some (.string w1s) := (HWD4.out 1 (by have := Xh0.out; omega)).trans (by rw [(List.getElem?_eq_some_iff.1 Xhw1.out).2]); clear k0 k1 k2 k3 k4 k5 k6 k7 k8 f0 f1 f2 f3 f4 f5 f6 f7 f8; obtain ⟨k0, k1, k2, k3, k4, k5, k6, k7, k8⟩ := HR4.out.nine; obtain ⟨f0, f1, f2, f3, f4, f5, f6, f7, f8⟩ := HR4.out.frees; clear hb4) | (go_at_call_of 23 (Value.string w1s); refine (XHC1.out _ (StdW.below HS.out (HB4.out.setCell (p := ⟨x1.heap.size, 8, none⟩) (Nat.le_of_lt hR1) (.int .i64 hi2)))).mono ?_; rintro e x5 ⟨rfl, hb5⟩; have HB5 := Lib.hid (below_then (HB4.out.setCell (p := ⟨x1.heap.size, 8, none⟩) (Nat.le_of_lt hR1) (.int .i64 hi2)) (HB4.out.setCell (p := ⟨x1.heap.size, 8, none⟩) (Nat.le_of_lt hR1) (.int .i64 hi2)).size hb5); have HZ5 := Lib.hid ((HZ4.out.other ⟨x1.heap.size, 8, none⟩ hRn2 (.int .i64 hi2)).below hb5); have HR5 : Hid (Blk x5 x1.heap.size (rc false 0 0 0 0 0 ⟨#[]⟩ lo hi2) _) := Lib.hid ((HR4.out.set 8 (.int .i64 hi2)).below hb5); have HWD5 : Hid (∀ j, (h : j < l.length) → x5.cell? ⟨w.heap.size + 1, j, none⟩ = some (.string l[j])) := Lib.hid (fun j h => pw_cell_below hb5 (by rw [World.cell?_setCell_other _ _ _ _ (by intro e; injection e with e; omega)]; exact HWD4.out j h)); clear wd1; have wd1 : x5.cell? ⟨w.heap.size + 1, 1, none⟩ = some (.string w1s) := (HWD5.out 1 (by have := Xh0.out; omega)).trans (by rw [(List.getElem?_eq_some_iff.1 Xhw1.out).2]); clear k0 k1 k2 k3 k4 k5 k6 k7 k8 f0 f1 f2 f3 f4 f5 f6 f7 f8; obtain ⟨k0, k1, k2, k3, k4, k5, k6, k7, k8⟩ := HR5.out.nine; obtain ⟨f0, f1, f2, f3, f4, f5, f6, f7, f8⟩ := HR5.out.frees; clear hb5) | (go_at_call_of 24 (Value.string nS); refine (XHN3.out _ (StdW.below HS.out HB5.out)).mono ?_; rintro e x6 ⟨rfl, hb6⟩; have HB6 := Lib.hid (below_then HB5.out HB5.out.size hb6); have HZ6 := Lib.hid (HZ5.out.below hb6); have HR6 := Lib.hid (HR5.out.below hb6); clear k0 k1 k2 k3 k4 k5 k6 k7 k8 f0 f1 f2 f3 f4 f5 f6 f7 f8; obtain ⟨k0, k1, k2, k3, k4, k5, k6, k7, k8⟩ := HR6.out.nine; obtain ⟨f0, f1, f2, f3, f4, f5, f6, f7, f8⟩ := HR6.out.frees; clear hb6) | (go_at_call 25; refine (XHPA.out _ (StdW.below HS.out (HB6.out.setCell (p := ⟨x1.heap.size, 5, none⟩) (Nat.le_of_lt hR1) (.int .i64 bi)))).mono ?_; rintro e x7 ⟨rfl, hb7⟩; have HB7 := Lib.hid (below_then (HB6.out.setCell (p := ⟨x1.heap.size, 5, none⟩) (Nat.le_of_lt hR1) (.int .i64 bi)) (HB6.out.setCell (p := ⟨x1.heap.size, 5, none⟩) (Nat.le_of_lt hR1) (.int .i64 bi)).size hb7); have HZ7 := Lib.hid ((HZ6.out.other ⟨x1.heap.size, 5, none⟩ hRn2 (.int .i64 bi)).below hb7); have HR7 : Hid (Blk x7 x1.heap.size (rc false 0 0 0 0 bi ⟨#[]⟩ lo hi2) _) := Lib.hid ((HR6.out.set 5 (.int .i64 bi)).below hb7); clear k0 k1 k2 k3 k4 k5 k6 k7 k8 f0 f1 f2 f3 f4 f5 f6 f7 f8; obtain ⟨k0, k1, k2, k3, k4, k5, k6, k7, k8⟩ := HR7.out.nine; obtain ⟨f0, f1, f2, f3, f4, f5, f6, f7, f8⟩ := HR7.out.frees; obtain ⟨z0, z1, z2, z3, z4, z5, z6, z7, z8⟩ := HZ7.out.nine; obtain ⟨g0, g1, g2, g3, g4, g5, g6, g7, g8⟩ := HZ7.out.frees; clear hb7) | (go_at_call 18; refine (XHRT.out _ (StdW.below HS.out ((((HB7.out.setCell (p := ⟨x1.heap.size, 1, none⟩) (Nat.le_of_lt hR1) (.int .u8 a)).setCell (p := ⟨x1.heap.size, 2, none⟩) (Nat.le_of_lt hR1) (.int .u8 b)).setCell (p := ⟨x1.heap.size, 3, none⟩) (Nat.le_of_lt hR1) (.int .u8 c)).setCell (p := ⟨x1.heap.size, 4, none⟩) (Nat.le_of_lt hR1) (.int .u8 d)))).mono ?_; rintro e x8 ⟨rfl, hb8⟩; have HB8 := Lib.hid (below_then ((((HB7.out.setCell (p := ⟨x1.heap.size, 1, none⟩) (Nat.le_of_lt hR1) (.int .u8 a)).setCell (p := ⟨x1.heap.size, 2, none⟩) (Nat.le_of_lt hR1) (.int .u8 b)).setCell (p := ⟨x1.heap.size, 3, none⟩) (Nat.le_of_lt hR1) (.int .u8 c)).setCell (p := ⟨x1.heap.size, 4, none⟩) (Nat.le_of_lt hR1) (.int .u8 d)) ((((HB7.out.setCell (p := ⟨x1.heap.size, 1, none⟩) (Nat.le_of_lt hR1) (.int .u8 a)).setCell (p := ⟨x1.heap.size, 2, none⟩) (Nat.le_of_lt hR1) (.int .u8 b)).setCell (p := ⟨x1.heap.size, 3, none⟩) (Nat.le_of_lt hR1) (.int .u8 c)).setCell (p := ⟨x1.heap.size, 4, none⟩) (Nat.le_of_lt hR1) (.int .u8 d)).size hb8); have HZ8 := Lib.hid (((((HZ7.out.other ⟨x1.heap.size, 1, none⟩ hRn2 (.int .u8 a)).other ⟨x1.heap.size, 2, none⟩ hRn2 (.int .u8 b)).other ⟨x1.heap.size, 3, none⟩ hRn2 (.int .u8 c)).other ⟨x1.heap.size, 4, none⟩ hRn2 (.int .u8 d)).below hb8); have HR8 : Hid (Blk x8 x1.heap.size (rc false a b c d bi ⟨#[]⟩ lo hi2) _) := Lib.hid (((((HR7.out.set 1 (.int .u8 a)).set 2 (.int .u8 b)).set 3 (.int .u8 c)).set 4 (.int .u8 d)).below hb8); clear k0 k1 k2 k3 k4 k5 k6 k7 k8 f0 f1 f2 f3 f4 f5 f6 f7 f8; clear z0 z1 z2 z3 z4 z5 z6 z7 z8 g0 g1 g2 g3 g4 g5 g6 g7 g8; obtain ⟨k0, k1, k2, k3, k4, k5, k6, k7, k8⟩ := HR8.out.nine; obtain ⟨f0, f1, f2, f3, f4, f5, f6, f7, f8⟩ := HR8.out.frees; obtain ⟨z0, z1, z2, z3, z4, z5, z6, z7, z8⟩ := HZ8.out.nine; obtain ⟨g0, g1, g2, g3, g4, g5, g6, g7, g8⟩ := HZ8.out.frees; clear hb8))
  all_goals
    refine bodyPost_ret (v := .tuple #[.agg (rc false a b c d bi ⟨#[]⟩ lo hi2), .int .i64 0]) (by simp [results, Tryd.results11, go_sem, rc, z0, z1, z2, z3, z4, z5, z6, z7, z8, hRn1, hRn2]) rfl ⟨rfl, ?_⟩
    repeat (refine Below.setCell ?_ (by first | exact Nat.le_refl _ | exact Nat.le_of_lt hR1) _)
    exact HB8.out
end Go.Proofs.YteondnhokgmakaaDoor.E


namespace Go.Proofs.YteondnhokgmakaaDoor.E
open Go.RowKit Go.Proofs.YteondnhokgmakaaDoorW.PrintWords Go.Proofs.YteondnhokgmakaaDoorW.PrintLast
set_option linter.unusedVariables false
set_option linter.unusedSimpArgs false
set_option maxRecDepth 100000 in
set_option maxHeartbeats 40000000 in
theorem qq_2 (s w0 w1s w2s lowS highS netS nS : ByteArray) (lo : Int) (l : List ByteArray) (hs1 : s.size ≤ 285) (hs : s.size < 4294967281)
    (HSP : ∀ W, StdW W → Calls Tryd.prog 22 #[.string s, .string ⟨#[32]⟩] W fun e w' => e = .returned (.slice (some ⟨W.heap.size, 0, none⟩) l.length l.length) ∧ (∀ j, (h : j < l.length) → w'.cell? ⟨W.heap.size, j, none⟩ = some (.string l[j])) ∧ W.heap.size < w'.heap.size ∧ Below W.heap.size W w')
    (h0 : 3 = l.length)
    (hw0 : l[0]? = some w0)
    (hw1 : l[1]? = some w1s)
    (hw2 : l[2]? = some w2s)
    (hal : (w0.toList == [97, 108, 108, 111, 119]) = true)
    (hde : true = false → (w0.toList == [100, 101, 110, 121]) = true)
    (HC2 : ∀ W, StdW W → Calls Tryd.prog 23 #[.string w2s, .string ⟨#[45]⟩] W fun e w' => e = .returned (.tuple #[.string lowS, .string highS, .bool false]) ∧ Below W.heap.size W w')
    (HN1 : ∀ W, StdW W → Calls Tryd.prog 24 #[.string lowS] W fun e w' => e = .returned (.tuple #[.int .i64 lo, .bool true]) ∧ Below W.heap.size W w')
    (HC1 : ∀ W, StdW W → Calls Tryd.prog 23 #[.string w1s, .string ⟨#[47]⟩] W fun e w' => e = .returned (.tuple #[.string netS, .string nS, .bool false]) ∧ Below W.heap.size W w')
    (hok : w1s.toList.isEmpty = !true)
    (HRT : ∀ W, StdW W → Calls Tryd.prog 18 #[.agg (rc true 0 0 0 0 0 w1s lo lo)] W fun e w' => e = .returned (.bool true) ∧ Below W.heap.size W w')
    (w : World) (hS : StdW w) :
    Calls Tryd.prog 11 #[.string s] w fun e w' => e = .returned (ppOut (true && (true && (true && true))) true 0 0 0 0 0 w1s lo lo) ∧ Below w.heap.size w w' := by
  have HS := Lib.hid hS
  clear hS
  have hs1' : (s.size : Int) ≤ 285 := by omega
  have hl3 : ((l.length : Int) != 3) = false := by rw [← h0]; rfl
  have hl0 : (0 : Int) < (l.length : Int) := by omega
  have hl1 : (1 : Int) < (l.length : Int) := by omega
  have hl2 : (2 : Int) < (l.length : Int) := by omega
  have XHSP := Lib.hid HSP
  have XHC2 := Lib.hid HC2
  have XHN1 := Lib.hid HN1
  have XHC1 := Lib.hid HC1
  have XHRT := Lib.hid HRT
  have Xhw0 := Lib.hid hw0
  have Xhw1 := Lib.hid hw1
  have Xhw2 := Lib.hid hw2
  clear HSP HC2 HN1 HC1 HRT hw0 hw1 hw2
  have Xh0 := Lib.hid h0
  clear h0 hs1
  clear hde
  go_enter Tryd.func11, Tryd.ntmps11
  go_wp2_with (first | (go_at_call 22; refine (XHSP.out _ (StdW.below HS.out (below_alloc (Below.refl _ _) _))).mono ?_; rintro e x1 ⟨rfl, hc, hlt1, hb1⟩; have HB1 := Lib.hid (below_then (below_alloc (Below.refl w.heap.size w) _) (below_alloc (Below.refl w.heap.size w) _).size hb1); have hR1 : w.heap.size < x1.heap.size := (by have := hb1.size; simp at this; omega); have hRn1 : ¬ x1.heap.size = w.heap.size := (by omega); have hRn2 : ¬ w.heap.size = x1.heap.size := (by omega); have HZ1 := Lib.hid ((Blk.new w (rc false 0 0 0 0 0 ⟨#[]⟩ 0 0) _).below hb1); have HWD1 : Hid (∀ j, (h : j < l.length) → x1.cell? ⟨w.heap.size + 1, j, none⟩ = some (.string l[j])) := Lib.hid (fun j h => by have := hc j h; rw [World.size_alloc] at this; exact this); have wd0 : x1.cell? ⟨w.heap.size + 1, 0, none⟩ = some (.string w0) := (HWD1.out 0 (by have := Xh0.out; omega)).trans (by rw [(List.getElem?_eq_some_iff.1 Xhw0.out).2]); have wd2 : x1.cell? ⟨w.heap.size + 1, 2, none⟩ = some (.string w2s) := (HWD1.out 2 (by have := Xh0.out; omega)).trans (by rw [(List.getElem?_eq_some_iff.1 Xhw2.out).2]); have hwl : w.heap.size + 1 < x1.heap.size := (by simpa using hlt1); clear hc hlt1 hb1) | (go_at_call_of 23 (Value.string w2s); refine (XHC2.out _ (StdW.below HS.out (below_alloc HB1.out _))).mono ?_; rintro e x2 ⟨rfl, hb2⟩; have HB2 := Lib.hid (below_then (below_alloc HB1.out _) (below_alloc HB1.out _).size hb2); have HZ2 := Lib.hid ((HZ1.out.old _).below hb2); have HR2 : Hid (Blk x2 x1.heap.size (rc true 0 0 0 0 0 ⟨#[]⟩ 0 0) _) := Lib.hid ((Blk.new x1 (rc true 0 0 0 0 0 ⟨#[]⟩ 0 0) _).below hb2); have HWD2 : Hid (∀ j, (h : j < l.length) → x2.cell? ⟨w.heap.size + 1, j, none⟩ = some (.string l[j])) := Lib.hid (fun j h => pw_cell_below hb2 (pw_cell_below (below_alloc (Below.refl _ _) _) (HWD1.out j h))); clear hb2 wd0 wd2) | (go_at_call_of 24 (Value.string lowS); refine (XHN1.out _ (StdW.below HS.out HB2.out)).mono ?_; rintro e x3 ⟨rfl, hb3⟩; have HB3 := Lib.hid (below_then HB2.out HB2.out.size hb3); have HZ3 := Lib.hid (HZ2.out.below hb3); have HR3 := Lib.hid (HR2.out.below hb3); have HWD3 : Hid (∀ j, (h : j < l.length) → x3.cell? ⟨w.heap.size + 1, j, none⟩ = some (.string l[j])) := Lib.hid (fun j h => pw_cell_below hb3 (HWD2.out j h)); have wd1 : x3.cell? ⟨w.heap.size + 1, 1, none⟩ = some (.string w1s) := (HWD3.out 1 (by have := Xh0.out; omega)).trans (by rw [(List.getElem?_eq_some_iff.1 Xhw1.out).2]); obtain ⟨k0, k1, k2, k3, k4, k5, k6, k7, k8⟩ := HR3.out.nine; obtain ⟨f0, f1, f2, f3, f4, f5, f6, f7, f8⟩ := HR3.out.frees; clear hb3) | (go_at_call_of 23 (Value.string w1s); refine (XHC1.out _ (StdW.below HS.out ((HB3.out.setCell (p := ⟨x1.heap.size, 7, none⟩) (Nat.le_of_lt hR1) (.int .i64 lo)).setCell (p := ⟨x1.heap.size, 8, none⟩) (Nat.le_of_lt hR1) (.int .i64 lo)))).mono ?_; rintro e x5 ⟨rfl, hb5⟩; have HB5 := Lib.hid (below_then ((HB3.out.setCell (p := ⟨x1.heap.size, 7, none⟩) (Nat.le_of_lt hR1) (.int .i64 lo)).setCell (p := ⟨x1.heap.size, 8, none⟩) (Nat.le_of_lt hR1) (.int .i64 lo)) ((HB3.out.setCell (p := ⟨x1.heap.size, 7, none⟩) (Nat.le_of_lt hR1) (.int .i64 lo)).setCell (p := ⟨x1.heap.size, 8, none⟩) (Nat.le_of_lt hR1) (.int .i64 lo)).size hb5); have HZ5 := Lib.hid (((HZ3.out.other ⟨x1.heap.size, 7, none⟩ hRn2 (.int .i64 lo)).other ⟨x1.heap.size, 8, none⟩ hRn2 (.int .i64 lo)).below hb5); have HR5 : Hid (Blk x5 x1.heap.size (rc true 0 0 0 0 0 ⟨#[]⟩ lo lo) _) := Lib.hid (((HR3.out.set 7 (.int .i64 lo)).set 8 (.int .i64 lo)).below hb5); have HWD5 : Hid (∀ j, (h : j < l.length) → x5.cell? ⟨w.heap.size + 1, j, none⟩ = some (.string l[j])) := Lib.hid (fun j h => pw_cell_below hb5 (by rw [World.cell?_setCell_other _ _ _ _ (by intro e; injection e with e; omega), World.cell?_setCell_other _ _ _ _ (by intro e; injection e with e; omega)]; exact HWD3.out j h)); clear wd1; have wd1 : x5.cell? ⟨w.heap.size + 1, 1, none⟩ = some (.string w1s) := (HWD5.out 1 (by have := Xh0.out; omega)).trans (by rw [(List.getElem?_eq_some_iff.1 Xhw1.out).2]); clear k0 k1 k2 k3 k4 k5 k6 k7 k8 f0 f1 f2 f3 f4 f5 f6 f7 f8; obtain ⟨k0, k1, k2, k3, k4, k5, k6, k7, k8⟩ := HR5.out.nine; obtain ⟨f0, f1, f2, f3, f4, f5, f6, f7, f8⟩ := HR5.out.frees; obtain ⟨z0, z1, z2, z3, z4, z5, z6, z7, z8⟩ := HZ5.out.nine; obtain ⟨g0, g1, g2, g3, g4, g5, g6, g7, g8⟩ := HZ5.out.frees; clear hb5) | (go_at_call 18; refine (XHRT.out _ (StdW.below HS.out (HB5.out.setCell (p := ⟨x1.heap.size, 6, none⟩) (Nat.le_of_lt hR1) (.string w1s)))).mono ?_; rintro e x8 ⟨rfl, hb8⟩; have HB8 := Lib.hid (below_then (HB5.out.setCell (p := ⟨x1.heap.size, 6, none⟩) (Nat.le_of_lt hR1) (.string w1s)) (HB5.out.setCell (p := ⟨x1.heap.size, 6, none⟩) (Nat.le_of_lt hR1) (.string w1s)).size hb8); have HZ8 := Lib.hid ((HZ5.out.other ⟨x1.heap.size, 6, none⟩ hRn2 (.string w1s)).below hb8); have HR8 : Hid (Blk x8 x1.heap.size (rc true 0 0 0 0 0 w1s lo lo) _) := Lib.hid ((HR5.out.set 6 (.string w1s)).below hb8); clear k0 k1 k2 k3 k4 k5 k6 k7 k8 f0 f1 f2 f3 f4 f5 f6 f7 f8; clear z0 z1 z2 z3 z4 z5 z6 z7 z8 g0 g1 g2 g3 g4 g5 g6 g7 g8; obtain ⟨k0, k1, k2, k3, k4, k5, k6, k7, k8⟩ := HR8.out.nine; obtain ⟨f0, f1, f2, f3, f4, f5, f6, f7, f8⟩ := HR8.out.frees; obtain ⟨z0, z1, z2, z3, z4, z5, z6, z7, z8⟩ := HZ8.out.nine; obtain ⟨g0, g1, g2, g3, g4, g5, g6, g7, g8⟩ := HZ8.out.frees; clear hb8))
  all_goals
    refine bodyPost_ret (v := .tuple #[.agg (rc true 0 0 0 0 0 w1s lo lo), .int .i64 0]) (by simp [results, Tryd.results11, go_sem, rc, z0, z1, z2, z3, z4, z5, z6, z7, z8, hRn1, hRn2]) rfl ⟨rfl, ?_⟩
    repeat (refine Below.setCell ?_ (by first | exact Nat.le_refl _ | exact Nat.le_of_lt hR1) _)
    exact HB8.out
end Go.Proofs.YteondnhokgmakaaDoor.E


namespace Go.Proofs.YteondnhokgmakaaDoor.E
open Go.RowKit Go.Proofs.YteondnhokgmakaaDoorW.PrintWords Go.Proofs.YteondnhokgmakaaDoorW.PrintLast
set_option linter.unusedVariables false
set_option linter.unusedSimpArgs false
set_option maxRecDepth 100000 in
set_option maxHeartbeats 40000000 in
theorem qq_3 (s w0 w1s w2s lowS highS netS nS : ByteArray) (lo : Int) (bi : Int) (a b c d : Int) (l : List ByteArray) (hs1 : s.size ≤ 285) (hs : s.size < 4294967281)
    (HSP : ∀ W, StdW W → Calls Tryd.prog 22 #[.string s, .string ⟨#[32]⟩] W fun e w' => e = .returned (.slice (some ⟨W.heap.size, 0, none⟩) l.length l.length) ∧ (∀ j, (h : j < l.length) → w'.cell? ⟨W.heap.size, j, none⟩ = some (.string l[j])) ∧ W.heap.size < w'.heap.size ∧ Below W.heap.size W w')
    (h0 : 3 = l.length)
    (hw0 : l[0]? = some w0)
    (hw1 : l[1]? = some w1s)
    (hw2 : l[2]? = some w2s)
    (hal : (w0.toList == [97, 108, 108, 111, 119]) = true)
    (hde : true = false → (w0.toList == [100, 101, 110, 121]) = true)
    (HC2 : ∀ W, StdW W → Calls Tryd.prog 23 #[.string w2s, .string ⟨#[45]⟩] W fun e w' => e = .returned (.tuple #[.string lowS, .string highS, .bool false]) ∧ Below W.heap.size W w')
    (HN1 : ∀ W, StdW W → Calls Tryd.prog 24 #[.string lowS] W fun e w' => e = .returned (.tuple #[.int .i64 lo, .bool true]) ∧ Below W.heap.size W w')
    (HC1 : ∀ W, StdW W → Calls Tryd.prog 23 #[.string w1s, .string ⟨#[47]⟩] W fun e w' => e = .returned (.tuple #[.string netS, .string nS, .bool true]) ∧ Below W.heap.size W w')
    (HN3 : ∀ W, StdW W → Calls Tryd.prog 24 #[.string nS] W fun e w' => e = .returned (.tuple #[.int .i64 bi, .bool true]) ∧ Below W.heap.size W w')
    (HPA : ∀ W, StdW W → Calls Tryd.prog 25 #[.string netS] W fun e w' => e = .returned (.tuple #[.agg #[.int .u8 a, .int .u8 b, .int .u8 c, .int .u8 d], .nilIface]) ∧ Below W.heap.size W w')
    (HRT : ∀ W, StdW W → Calls Tryd.prog 18 #[.agg (rc true a b c d bi ⟨#[]⟩ lo lo)] W fun e w' => e = .returned (.bool false) ∧ Below W.heap.size W w')
    (w : World) (hS : StdW w) :
    Calls Tryd.prog 11 #[.string s] w fun e w' => e = .returned (ppOut (true && (true && (true && false))) true a b c d bi ⟨#[]⟩ lo lo) ∧ Below w.heap.size w w' := by
  have HS := Lib.hid hS
  clear hS
  have hs1' : (s.size : Int) ≤ 285 := by omega
  have hl3 : ((l.length : Int) != 3) = false := by rw [← h0]; rfl
  have hl0 : (0 : Int) < (l.length : Int) := by omega
  have hl1 : (1 : Int) < (l.length : Int) := by omega
  have hl2 : (2 : Int) < (l.length : Int) := by omega
  have XHSP := Lib.hid HSP
  have XHC2 := Lib.hid HC2
  have XHN1 := Lib.hid HN1
  have XHC1 := Lib.hid HC1
  have XHRT := Lib.hid HRT
  have Xhw0 := Lib.hid hw0
  have Xhw1 := Lib.hid hw1
  have Xhw2 := Lib.hid hw2
  have XHN3 := Lib.hid HN3
  have XHPA := Lib.hid HPA
  clear HSP HC2 HN1 HC1 HRT hw0 hw1 hw2 HN3 HPA
  have Xh0 := Lib.hid h0
  clear h0 hs1
  clear hde
  go_enter Tryd.func11, Tryd.ntmps11
  go_wp2_with (first | (go_at_call 22; refine (XHSP.out _ (StdW.below HS.out (below_alloc (Below.refl _ _) _))).mono ?_; rintro e x1 ⟨rfl, hc, hlt1, hb1⟩; have HB1 := Lib.hid (below_then (below_alloc (Below.refl w.heap.size w) _) (below_alloc (Below.refl w.heap.size w) _).size hb1); have hR1 : w.heap.size < x1.heap.size := (by have := hb1.size; simp at this; omega); have hRn1 : ¬ x1.heap.size = w.heap.size := (by omega); have hRn2 : ¬ w.heap.size = x1.heap.size := (by omega); have HZ1 := Lib.hid ((Blk.new w (rc false 0 0 0 0 0 ⟨#[]⟩ 0 0) _).below hb1); have HWD1 : Hid (∀ j, (h : j < l.length) → x1.cell? ⟨w.heap.size + 1, j, none⟩ = some (.string l[j])) := Lib.hid (fun j h => by have := hc j h; rw [World.size_alloc] at this; exact this); have wd0 : x1.cell? ⟨w.heap.size + 1, 0, none⟩ = some (.string w0) := (HWD1.out 0 (by have := Xh0.out; omega)).trans (by rw [(List.getElem?_eq_some_iff.1 Xhw0.out).2]); have wd2 : x1.cell? ⟨w.heap.size + 1, 2, none⟩ = some (.string w2s) := (HWD1.out 2 (by have := Xh0.out; omega)).trans (by rw [(List.getElem?_eq_some_iff.1 Xhw2.out).2]); have hwl : w.heap.size + 1 < x1.heap.size := (by simpa using hlt1); clear hc hlt1 hb1) | (go_at_call_of 23 (Value.string w2s); refine (XHC2.out _ (StdW.below HS.out (below_alloc HB1.out _))).mono ?_; rintro e x2 ⟨rfl, hb2⟩; have HB2 := Lib.hid (below_then (below_alloc HB1.out _) (below_alloc HB1.out _).size hb2); have HZ2 := Lib.hid ((HZ1.out.old _).below hb2); have HR2 : Hid (Blk x2 x1.heap.size (rc true 0 0 0 0 0 ⟨#[]⟩ 0 0) _) := Lib.hid ((Blk.new x1 (rc true 0 0 0 0 0 ⟨#[]⟩ 0 0) _).below hb2); have HWD2 : Hid (∀ j, (h : j < l.length) → x2.cell? ⟨w.heap.size + 1, j, none⟩ = some (.string l[j])) := Lib.hid (fun j h => pw_cell_below hb2 (pw_cell_below (below_alloc (Below.refl _ _) _) (HWD1.out j h))); clear hb2 wd0 wd2) | (go_at_call_of 24 (Value.string lowS); refine (XHN1.out _ (StdW.below HS.out HB2.out)).mono ?_; rintro e x3 ⟨rfl, hb3⟩; have HB3 := Lib.hid (below_then HB2.out HB2.out.size hb3); have HZ3 := Lib.hid (HZ2.out.below hb3); have HR3 := Lib.hid (HR2.out.below hb3); have HWD3 : Hid (∀ j, (h : j < l.length) → x3.cell? ⟨w.heap.size + 1, j, none⟩ = some (.string l[j])) := Lib.hid (fun j h => pw_cell_below hb3 (HWD2.out j h)); have wd1 : x3.cell? ⟨w.heap.size + 1, 1, none⟩ = some (.string w1s) := (HWD3.out 1 (by have := Xh0.out; omega)).trans (by rw [(List.getElem?_eq_some_iff.1 Xhw1.out).2]); obtain ⟨k0, k1, k2, k3, k4, k5, k6, k7, k8⟩ := HR3.out.nine; obtain ⟨f0, f1, f2, f3, f4, f5, f6, f7, f8⟩ := HR3.out.frees; clear hb3) | (go_at_call_of 23 (Value.string w1s); refine (XHC1.out _ (StdW.below HS.out ((HB3.out.setCell (p := ⟨x1.heap.size, 7, none⟩) (Nat.le_of_lt hR1) (.int .i64 lo)).setCell (p := ⟨x1.heap.size, 8, none⟩) (Nat.le_of_lt hR1) (.int .i64 lo)))).mono ?_; rintro e x5 ⟨rfl, hb5⟩; have HB5 := Lib.hid (below_then ((HB3.out.setCell (p := ⟨x1.heap.size, 7, none⟩) (Nat.le_of_lt hR1) (.int .i64 lo)).setCell (p := ⟨x1.heap.size, 8, none⟩) (Nat.le_of_lt hR1) (.int .i64 lo)) ((HB3.out.setCell (p := ⟨x1.heap.size, 7, none⟩) (Nat.le_of_lt hR1) (.int .i64 lo)).setCell (p := ⟨x1.heap.size, 8, none⟩) (Nat.le_of_lt hR1) (.int .i64 lo)).size hb5); have HZ5 := Lib.hid (((HZ3.out.other ⟨x1.heap.size, 7, none⟩ hRn2 (.int .i64 lo)).other ⟨x1.heap.size, 8, none⟩ hRn2 (.int .i64 lo)).below hb5); have HR5 : Hid (Blk x5 x1.heap.size (rc true 0 0 0 0 0 ⟨#[]⟩ lo lo) _) := Lib.hid (((HR3.out.set 7 (.int .i64 lo)).set 8 (.int .i64 lo)).below hb5); have HWD5 : Hid (∀ j, (h : j < l.length) → x5.cell? ⟨w.heap.size + 1, j, none⟩ = some (.string l[j])) := Lib.hid (fun j h => pw_cell_below hb5 (by rw [World.cell?_setCell_other _ _ _ _ (by intro e; injection e with e; omega), World.cell?_setCell_other _ _ _ _ (by intro e; injection e with e; omega)]; exact HWD3.out j h)); clear wd1; have wd1 : x5.cell? ⟨w.heap.size + 1, 1, none⟩ = some (.string w1s) := (HWD5.out 1 (by have := Xh0.out; omega)).trans (by rw [(List.getElem?_eq_some_iff.1 Xhw1.out).2]); clear k0 k1 k2 k3 k4 k5 k6 k7 k8 f0 f1 f2 f3 f4 f5 f6 f7 f8; obtain ⟨k0, k1, k2, k3, k4, k5, k6, k7, k8⟩ := HR5.out.nine; obtain ⟨f0, f1, f2, f3, f4, f5, f6, f7, f8⟩ := HR5.out.frees; clear hb5) | (go_at_call_of 24 (Value.string nS); refine (XHN3.out _ (StdW.below HS.out HB5.out)).mono ?_; rintro e x6 ⟨rfl, hb6⟩; have HB6 := Lib.hid (below_then HB5.out HB5.out.size hb6); have HZ6 := Lib.hid (HZ5.out.below hb6); have HR6 := Lib.hid (HR5.out.below hb6); clear k0 k1 k2 k3 k4 k5 k6 k7 k8 f0 f1 f2 f3 f4 f5 f6 f7 f8; obtain ⟨k0, k1, k2, k3, k4, k5, k6, k7, k8⟩ := HR6.out.nine; obtain ⟨f0, f1, f2, f3, f4, f5, f6, f7, f8⟩ := HR6.out.frees; clear hb6) | (go_at_call 25; refine (XHPA.out _ (StdW.below HS.out (HB6.out.setCell (p := ⟨x1.heap.size, 5, none⟩) (Nat.le_of_lt hR1) (.int .i64 bi)))).mono ?_; rintro e x7 ⟨rfl, hb7⟩; have HB7 := Lib.hid (below_then (HB6.out.setCell (p := ⟨x1.heap.size, 5, none⟩) (Nat.le_of_lt hR1) (.int .i64 bi)) (HB6.out.setCell (p := ⟨x1.heap.size, 5, none⟩) (Nat.le_of_lt hR1) (.int .i64 bi)).size hb7); have HZ7 := Lib.hid ((HZ6.out.other ⟨x1.heap.size, 5, none⟩ hRn2 (.int .i64 bi)).below hb7); have HR7 : Hid (Blk x7 x1.heap.size (rc true 0 0 0 0 bi ⟨#[]⟩ lo lo) _) := Lib.hid ((HR6.out.set 5 (.int .i64 bi)).below hb7); clear k0 k1 k2 k3 k4 k5 k6 k7 k8 f0 f1 f2 f3 f4 f5 f6 f7 f8; obtain ⟨k0, k1, k2, k3, k4, k5, k6, k7, k8⟩ := HR7.out.nine; obtain ⟨f0, f1, f2, f3, f4, f5, f6, f7, f8⟩ := HR7.out.frees; obtain ⟨z0, z1, z2, z3, z4, z5, z6, z7, z8⟩ := HZ7.out.nine; obtain ⟨g0, g1, g2, g3, g4, g5, g6, g7, g8⟩ := HZ7.out.frees; clear hb7) | (go_at_call 18; refine (XHRT.out _ (StdW.below HS.out ((((HB7.out.setCell (p := ⟨x1.heap.size, 1, none⟩) (Nat.le_of_lt hR1) (.int .u8 a)).setCell (p := ⟨x1.heap.size, 2, none⟩) (Nat.le_of_lt hR1) (.int .u8 b)).setCell (p := ⟨x1.heap.size, 3, none⟩) (Nat.le_of_lt hR1) (.int .u8 c)).setCell (p := ⟨x1.heap.size, 4, none⟩) (Nat.le_of_lt hR1) (.int .u8 d)))).mono ?_; rintro e x8 ⟨rfl, hb8⟩; have HB8 := Lib.hid (below_then ((((HB7.out.setCell (p := ⟨x1.heap.size, 1, none⟩) (Nat.le_of_lt hR1) (.int .u8 a)).setCell (p := ⟨x1.heap.size, 2, none⟩) (Nat.le_of_lt hR1) (.int .u8 b)).setCell (p := ⟨x1.heap.size, 3, none⟩) (Nat.le_of_lt hR1) (.int .u8 c)).setCell (p := ⟨x1.heap.size, 4, none⟩) (Nat.le_of_lt hR1) (.int .u8 d)) ((((HB7.out.setCell (p := ⟨x1.heap.size, 1, none⟩) (Nat.le_of_lt hR1) (.int .u8 a)).setCell (p := ⟨x1.heap.size, 2, none⟩) (Nat.le_of_lt hR1) (.int .u8 b)).setCell (p := ⟨x1.heap.size, 3, none⟩) (Nat.le_of_lt hR1) (.int .u8 c)).setCell (p := ⟨x1.heap.size, 4, none⟩) (Nat.le_of_lt hR1) (.int .u8 d)).size hb8); have HZ8 := Lib.hid (((((HZ7.out.other ⟨x1.heap.size, 1, none⟩ hRn2 (.int .u8 a)).other ⟨x1.heap.size, 2, none⟩ hRn2 (.int .u8 b)).other ⟨x1.heap.size, 3, none⟩ hRn2 (.int .u8 c)).other ⟨x1.heap.size, 4, none⟩ hRn2 (.int .u8 d)).below hb8); have HR8 : Hid (Blk x8 x1.heap.size (rc true a b c d bi ⟨#[]⟩ lo lo) _) := Lib.hid (((((HR7.out.set 1 (.int .u8 a)).set 2 (.int .u8 b)).set 3 (.int .u8 c)).set 4 (.int .u8 d)).below hb8); clear k0 k1 k2 k3 k4 k5 k6 k7 k8 f0 f1 f2 f3 f4 f5 f6 f7 f8; clear z0 z1 z2 z3 z4 z5 z6 z7 z8 g0 g1 g2 g3 g4 g5 g6 g7 g8; obtain ⟨k0, k1, k2, k3, k4, k5, k6, k7, k8⟩ := HR8.out.nine; obtain ⟨f0, f1, f2, f3, f4, f5, f6, f7, f8⟩ := HR8.out.frees; obtain ⟨z0, z1, z2, z3, z4, z5, z6, z7, z8⟩ := HZ8.out.nine; obtain ⟨g0, g1, g2, g3, g4, g5, g6, g7, g8⟩ := HZ8.out.frees; clear hb8))
  all_goals
    refine bodyPost_ret (v := zeroRule) (by simp [results, Tryd.results11, go_sem, zeroRule, rc, z0, z1, z2, z3, z4, z5, z6, z7, z8, hRn1, hRn2]) rfl ⟨rfl, ?_⟩
    repeat (refine Below.setCell ?_ (by first | exact Nat.le_refl _ | exact Nat.le_of_lt hR1) _)
    exact HB8.out
end Go.Proofs.YteondnhokgmakaaDoor.E


namespace Go.Proofs.YteondnhokgmakaaDoor.E
open Go.RowKit Go.Proofs.YteondnhokgmakaaDoorW.PrintWords Go.Proofs.YteondnhokgmakaaDoorW.PrintLast Go.Proofs.YteondnhokgmakaaDoor.XC
set_option linter.unusedVariables false
set_option linter.unusedSimpArgs false
def dc (a b c d : Int) (n : ByteArray) (po : Int) : Array Value := #[.int .u8 a, .int .u8 b, .int .u8 c, .int .u8 d, .string n, .int .i64 po]
theorem Blk.six {w : World} {R : Nat} {a b c d : Int} {n : ByteArray} {po : Int} {T : TypeId} (h : Blk w R (dc a b c d n po) T) :
    w.cell? ⟨R, 0, none⟩ = some (.int .u8 a) ∧ w.cell? ⟨R, 1, none⟩ = some (.int .u8 b) ∧ w.cell? ⟨R, 2, none⟩ = some (.int .u8 c) ∧ w.cell? ⟨R, 3, none⟩ = some (.int .u8 d) ∧ w.cell? ⟨R, 4, none⟩ = some (.string n) ∧ w.cell? ⟨R, 5, none⟩ = some (.int .i64 po) :=
  ⟨h.cell 0 _ rfl, h.cell 1 _ rfl, h.cell 2 _ rfl, h.cell 3 _ rfl, h.cell 4 _ rfl, h.cell 5 _ rfl⟩
set_option maxRecDepth 100000 in
set_option maxHeartbeats 8000000 in
theorem which_no (A0 : Option Addr) (c0 : Nat) (l : List S33) (a b c d : Int) (n : ByteArray) (po : Int) (hc : checkL l ≠ 0 ∨ (printDestB a b c d n po).toList.isEmpty = true) (w : World) (hS : StdW w)
    (HCK : ∀ W, Below w.heap.size w W → Calls Tryd.prog 14 #[.slice A0 l.length c0] W fun e w' => e = .returned (.int .i64 (checkL l)) ∧ Below W.heap.size W w')
    (HPD : ∀ W, StdW W → Calls Tryd.prog 15 #[.agg (dc a b c d n po)] W fun e w' => e = .returned (.string (printDestB a b c d n po)) ∧ Below W.heap.size W w') :
    Calls Tryd.prog 7 #[.slice A0 l.length c0, .agg (dc a b c d n po)] w fun e w' => e = .returned (.int .i64 (-1)) ∧ Below w.heap.size w w' := by
  have XCK := Lib.hid HCK
  have XPD := Lib.hid HPD
  have HS := Lib.hid hS
  clear hS HCK HPD
  generalize checkL l = v at XCK hc
  generalize printDestB a b c d n po = t at XPD hc
  unfold dc at *
  by_cases h1 : v = 0
  · have h2 : t.toList.isEmpty = true := hc.resolve_left (fun h => h h1)
    have h1' : (v != 0) = false := by rw [h1]; rfl
    clear hc
    go_enter Tryd.func7, Tryd.ntmps7
    go_wp2
    go_step3
    go_wp2_with (first | (go_at_call 14; refine (XCK.out _ (below_alloc (Below.refl _ _) _)).mono ?_; rintro e w1 ⟨rfl, hb1⟩; have HB1 := Lib.hid (below_then (below_alloc (Below.refl w.heap.size w) _) (below_alloc (Below.refl w.heap.size w) _).size hb1); obtain ⟨c0, c1, c2, c3, c4, c5⟩ := ((Blk.new w (dc a b c d n po) _).below hb1).six; clear hb1) | (go_at_call 15; refine (XPD.out _ (StdW.below HS.out HB1.out)).mono ?_; rintro e w2 ⟨rfl, hb2⟩))
    try rw [Exit.noGoto_ret]
    go_ret
    exact ⟨rfl, below_then HB1.out HB1.out.size hb2⟩
  · have h1' : (v != 0) = true := bne_iff_ne.mpr h1
    clear hc
    go_enter Tryd.func7, Tryd.ntmps7
    go_wp2
    go_step3
    go_wp2_with (first | (go_at_call 14; refine (XCK.out _ (below_alloc (Below.refl _ _) _)).mono ?_; rintro e w1 ⟨rfl, hb1⟩; have HB1 := Lib.hid (below_then (below_alloc (Below.refl w.heap.size w) _) (below_alloc (Below.refl w.heap.size w) _).size hb1); obtain ⟨c0, c1, c2, c3, c4, c5⟩ := ((Blk.new w (dc a b c d n po) _).below hb1).six; clear hb1))
    try rw [Exit.noGoto_ret]
    go_ret
    exact ⟨rfl, HB1.out⟩
theorem whichAt_drop {fit : S33 → Bool} {l : List S33} {k : Nat} {v : Int} (hk : k < l.length) (hf : fit l[k] = false) (h : v = whichAt fit (l.drop k) k) : v = whichAt fit (l.drop (k + 1)) ((k + 1 : Nat) : Int) := by
  rw [List.drop_eq_getElem_cons hk] at h
  unfold whichAt at h
  rw [if_neg (by rw [hf]; simp)] at h
  rw [h]; rfl
theorem whichAt_here {fit : S33 → Bool} {l : List S33} {k : Nat} {v : Int} (hk : k < l.length) (hf : fit l[k] = true) (h : v = whichAt fit (l.drop k) k) : v = k := by
  rw [List.drop_eq_getElem_cons hk] at h
  unfold whichAt at h
  rw [if_pos hf] at h
  exact h
theorem whichAt_end {fit : S33 → Bool} {l : List S33} {k : Nat} {v : Int} (hk : ¬ k < l.length) (h : v = whichAt fit (l.drop k) k) : v = -1 := by
  rw [List.drop_of_length_le (by omega)] at h
  exact h
set_option maxRecDepth 100000 in
set_option maxHeartbeats 40000000 in
theorem which_go (A0 : Option Addr) (c0 : Nat) (l : List S33) (a b c d : Int) (n : ByteArray) (po : Int) (hl : l.length ≤ 64) (hn : n.size ≤ 281474976710656) (hck : checkL l = 0) (hpd : (printDestB a b c d n po).toList.isEmpty = false) (w : World) (hS : StdW w)
    (hR : Kd.C k33 w A0 l.length l)
    (HCK : ∀ W, Below w.heap.size w W → Calls Tryd.prog 14 #[.slice A0 l.length c0] W fun e w' => e = .returned (.int .i64 (checkL l)) ∧ Below W.heap.size W w')
    (HPD : ∀ W, StdW W → Calls Tryd.prog 15 #[.agg (dc a b c d n po)] W fun e w' => e = .returned (.string (printDestB a b c d n po)) ∧ Below W.heap.size W w') :
    Calls Tryd.prog 7 #[.slice A0 l.length c0, .agg (dc a b c d n po)] w fun e w' => e = .returned (.int .i64 (whichAt (fitB a b c d n po) l 0)) ∧ Below w.heap.size w w' := by
  have XCK := Lib.hid HCK
  have XPD := Lib.hid HPD
  have HS := Lib.hid hS
  have HR := Lib.hid hR
  have HN := Lib.hid hn
  clear hS HCK HPD hR hn
  rw [hck] at XCK
  generalize printDestB a b c d n po = t at XPD hpd
  have HW : Hid (∀ v, v = whichAt (fitB a b c d n po) l 0 → v = whichAt (fitB a b c d n po) l 0) := Lib.hid (fun v h => h)
  generalize hv : whichAt (fitB a b c d n po) l 0 = v
  have HV := Lib.hid hv
  clear hv HW
  have hl' : (l.length : Int) ≤ 64 := by omega
  have hlm : l.length ≤ 9223372036854775807 := by omega
  unfold dc at *
  go_enter Tryd.func7, Tryd.ntmps7
  go_wp2
  go_step3
  go_wp2_with (first | (go_at_call 14; refine (XCK.out _ (below_alloc (Below.refl _ _) _)).mono ?_; rintro e w1 ⟨rfl, hb1⟩; have HB1 := Lib.hid (below_then (below_alloc (Below.refl w.heap.size w) _) (below_alloc (Below.refl w.heap.size w) _).size hb1); have HD1 := Lib.hid ((Blk.new w (dc a b c d n po) _).below hb1); obtain ⟨c0, c1, c2, c3, c4, c5⟩ := HD1.out.six; clear hb1) | (go_at_call 15; refine (XPD.out _ (StdW.below HS.out HB1.out)).mono ?_; rintro e w2 ⟨rfl, hb2⟩; have HB2 := Lib.hid (below_then HB1.out HB1.out.size hb2); have HD2 := Lib.hid (HD1.out.below hb2); clear hb2))
  go_step3
  go_wp2
  go_loopw [5, 18] (fun at_ i wr => ∃ k : Nat, k ≤ l.length ∧ at_ = .int .i64 (-1) ∧ i = .int .i64 k ∧ Hid (v = whichAt (fitB a b c d n po) (l.drop k) k) ∧ Hid (Blk wr w.heap.size (dc a b c d n po) 28) ∧ Hid (Below w.heap.size w wr)) (fun _ i _ => l.length - (intOf i).toNat)
  case atStart => exact ⟨0, Nat.zero_le _, rfl, rfl, Lib.hid (by rw [List.drop_zero]; exact HV.out.symm), HD2, HB2⟩
  case round =>
    obtain ⟨k, hk, rfl, rfl, HP, HD, HB⟩ := hrel
    clear HB1 HD1 HB2 HD2 XCK XPD
    by_cases hlt : k < l.length
    · have hk0 : (0 : Int) ≤ (k : Int) := Int.natCast_nonneg _
      have hk1 : (k : Int) < (l.length : Int) := by omega
      have hrd : rd_T33 l (k : Int) = l[k] := by
        unfold rd_T33
        rw [show ((k : Int)).toNat = k by omega, List.getD_eq_getElem?_getD, List.getElem?_eq_getElem hlt]; rfl
      obtain ⟨ad, ea, x0, x1, x2, x3, x4, x5, x6, x7, x8⟩ := at_T33 HR.out (k : Int) hk0 hk1
      cases ea
      rw [hrd] at x0 x1 x2 x3 x4 x5 x6 x7 x8
      have HNF := Lib.hid (fun (hf : fitB a b c d n po l[k] = false) => whichAt_drop hlt hf HP.out)
      have HYF := Lib.hid (fun (hf : fitB a b c d n po l[k] = true) => whichAt_here hlt hf HP.out)
      clear HP
      generalize l[k] = r at x0 x1 x2 x3 x4 x5 x6 x7 x8 HNF HYF hrd
      obtain ⟨al, ⟨ra, rb, rc', rd⟩, bi, su, lo, hi⟩ := r
      simp only [Int.toNat_natCast] at x0 x1 x2 x3 x4 x5 x6 x7 x8
      clear hrd
      replace x0 := (HB.out.cell (World.block_lt_of_cell? w _ x0)).trans x0
      replace x1 := (HB.out.cell (World.block_lt_of_cell? w _ x1)).trans x1
      replace x2 := (HB.out.cell (World.block_lt_of_cell? w _ x2)).trans x2
      replace x3 := (HB.out.cell (World.block_lt_of_cell? w _ x3)).trans x3
      replace x4 := (HB.out.cell (World.block_lt_of_cell? w _ x4)).trans x4
      replace x5 := (HB.out.cell (World.block_lt_of_cell? w _ x5)).trans x5
      replace x6 := (HB.out.cell (World.block_lt_of_cell? w _ x6)).trans x6
      replace x7 := (HB.out.cell (World.block_lt_of_cell? w _ x7)).trans x7
      replace x8 := (HB.out.cell (World.block_lt_of_cell? w _ x8)).trans x8
      obtain ⟨d0, d1, d2, d3, d4, d5⟩ := HD.out.six
      have hdl := HD.out.lt
      have hne : ¬ w.heap.size = wr.heap.size := by omega
      by_cases h1 : po < lo
      · have hf := HNF.out (by unfold fitB; simp only; rw [if_pos h1])
        clear HNF HYF
        go_wp2
        go_roundw
        case rel => exact ⟨k + 1, by omega, rfl, by go_num, Lib.hid hf, Lib.hid (HD.out.old _), Lib.hid (below_alloc HB.out _)⟩
        case measure => simp [intOf]; omega
      · have h1' : decide (po < lo) = false := decide_eq_false h1
        by_cases h2 : hi < po
        · have hf := HNF.out (by unfold fitB; simp only; rw [if_neg h1, if_pos h2])
          clear HNF HYF
          go_wp2
          go_roundw
          case rel => exact ⟨k + 1, by omega, rfl, by go_num, Lib.hid hf, Lib.hid (HD.out.old _), Lib.hid (below_alloc HB.out _)⟩
          case measure => simp [intOf]; omega
        · have h2' : decide (hi < po) = false := decide_eq_false h2
          cases hsu : su.toList.isEmpty
          · cases hnn : n.toList.isEmpty
            · cases hb : underB n su
              · have hf := HNF.out (by unfold fitB; simp only; rw [if_neg h1, if_neg h2, hsu, hnn]; simpa using hb)
                clear HNF HYF
                have HU := Lib.hid (fun W => host_Under.calls n su _ W (underB_some n su HN.out))
                rw [hb] at HU
                go_wp2_with (first | (go_at_call 16; refine (HU.out _).mono ?_; rintro e w4 ⟨rfl, hb4⟩; have HB4 := Lib.hid (below_then (below_alloc HB.out _) (below_alloc HB.out _).size hb4.below); have HD4 : Hid (Blk w4 w.heap.size (dc a b c d n po) 28) := Lib.hid ((HD.out.old _).below hb4.below); obtain ⟨e0, e1, e2, e3, e4, e5, e6, e7, e8⟩ := ((Blk.new wr (rc al ra rb rc' rd bi su lo hi) 33).below hb4.below).nine))
                go_roundw
                case rel => exact ⟨k + 1, by omega, rfl, by go_num, Lib.hid hf, Lib.hid HD4.out, Lib.hid HB4.out⟩
                case measure => simp [intOf]; omega
              · have hf := HYF.out (by unfold fitB; simp only; rw [if_neg h1, if_neg h2, hsu, hnn]; simpa using hb)
                clear HNF HYF
                have HU := Lib.hid (fun W => host_Under.calls n su _ W (underB_some n su HN.out))
                rw [hb] at HU
                go_wp2_with (first | (go_at_call 16; refine (HU.out _).mono ?_; rintro e w4 ⟨rfl, hb4⟩; have HB4 := Lib.hid (below_then (below_alloc HB.out _) (below_alloc HB.out _).size hb4.below); have HD4 : Hid (Blk w4 w.heap.size (dc a b c d n po) 28) := Lib.hid ((HD.out.old _).below hb4.below); obtain ⟨e0, e1, e2, e3, e4, e5, e6, e7, e8⟩ := ((Blk.new wr (rc al ra rb rc' rd bi su lo hi) 33).below hb4.below).nine))
                try rw [Exit.noGoto_ret]
                go_ret
                exact ⟨by rw [hf]; rfl, HB4.out⟩
            · have hf := HNF.out (by unfold fitB; simp only; rw [if_neg h1, if_neg h2, hsu, hnn]; rfl)
              clear HNF HYF
              go_wp2
              go_roundw
              case rel => exact ⟨k + 1, by omega, rfl, by go_num, Lib.hid hf, Lib.hid (HD.out.old _), Lib.hid (below_alloc HB.out _)⟩
              case measure => simp [intOf]; omega
          · cases hnn : n.toList.isEmpty
            · have hf := HNF.out (by unfold fitB; simp only; rw [if_neg h1, if_neg h2, hsu, hnn]; rfl)
              clear HNF HYF
              go_wp2
              go_roundw
              case rel => exact ⟨k + 1, by omega, rfl, by go_num, Lib.hid hf, Lib.hid (HD.out.old _), Lib.hid (below_alloc HB.out _)⟩
              case measure => simp [intOf]; omega
            · cases hb : inB a b c d ra rb rc' rd bi
              · have hf := HNF.out (by unfold fitB; simp only; rw [if_neg h1, if_neg h2, hsu, hnn]; simpa using hb)
                clear HNF HYF
                have HU := Lib.hid (fun W => host_In.calls a b c d ra rb rc' rd bi _ W (inB_some a b c d ra rb rc' rd bi))
                rw [hb] at HU
                go_wp2_with (first | (go_at_call 17; refine (HU.out _).mono ?_; rintro e w4 ⟨rfl, hb4⟩; have HB4 := Lib.hid (below_then (below_alloc HB.out _) (below_alloc HB.out _).size hb4); have HD4 : Hid (Blk w4 w.heap.size (dc a b c d n po) 28) := Lib.hid ((HD.out.old _).below hb4); obtain ⟨e0, e1, e2, e3, e4, e5, e6, e7, e8⟩ := ((Blk.new wr (rc al ra rb rc' rd bi su lo hi) 33).below hb4).nine))
                go_roundw
                case rel => exact ⟨k + 1, by omega, rfl, by go_num, Lib.hid hf, Lib.hid HD4.out, Lib.hid HB4.out⟩
                case measure => simp [intOf]; omega
              · have hf := HYF.out (by unfold fitB; simp only; rw [if_neg h1, if_neg h2, hsu, hnn]; simpa using hb)
                clear HNF HYF
                have HU := Lib.hid (fun W => host_In.calls a b c d ra rb rc' rd bi _ W (inB_some a b c d ra rb rc' rd bi))
                rw [hb] at HU
                go_wp2_with (first | (go_at_call 17; refine (HU.out _).mono ?_; rintro e w4 ⟨rfl, hb4⟩; have HB4 := Lib.hid (below_then (below_alloc HB.out _) (below_alloc HB.out _).size hb4); have HD4 : Hid (Blk w4 w.heap.size (dc a b c d n po) 28) := Lib.hid ((HD.out.old _).below hb4); obtain ⟨e0, e1, e2, e3, e4, e5, e6, e7, e8⟩ := ((Blk.new wr (rc al ra rb rc' rd bi su lo hi) 33).below hb4).nine))
                try rw [Exit.noGoto_ret]
                go_ret
                exact ⟨by rw [hf]; rfl, HB4.out⟩
    · have hf := whichAt_end hlt HP.out
      have hk1 : (k : Int) = (l.length : Int) := by omega
      go_wp2
      try rw [Exit.noGoto_ret]
      go_ret
      exact ⟨by rw [hf]; rfl, HB.out⟩
end Go.Proofs.YteondnhokgmakaaDoor.E


namespace Go.Proofs.YteondnhokgmakaaDoor.E
open Go.RowKit Go.Proofs.YteondnhokgmakaaDoorW.PrintWords Go.Proofs.YteondnhokgmakaaDoorW.PrintLast Go.Proofs.YteondnhokgmakaaDoor.XC
set_option linter.unusedVariables false
set_option linter.unusedSimpArgs false
def ruleT1 : ByteArray := ⟨#[100, 101, 110, 121, 32, 49, 48, 46, 48, 46, 48, 46, 48, 47, 56, 32, 49, 45, 54, 53, 53, 51, 53]⟩
def ruleT2 : ByteArray := ⟨#[97, 108, 108, 111, 119, 32, 101, 120, 97, 109, 112, 108, 101, 46, 99, 111, 109, 32, 52, 52, 51]⟩
def ruleT3 : ByteArray := ⟨#[97, 108, 108, 111, 119, 32, 49, 48, 46, 48, 46, 48, 46, 49, 47, 56, 32, 56, 48]⟩
def exS : ByteArray := ⟨#[101, 120, 97, 109, 112, 108, 101, 46, 99, 111, 109]⟩
theorem words1 : wordsS ruleT1 = [⟨#[100, 101, 110, 121]⟩, ⟨#[49, 48, 46, 48, 46, 48, 46, 48, 47, 56]⟩, ⟨#[49, 45, 54, 53, 53, 51, 53]⟩] := by kernel_rfl
theorem words2 : wordsS ruleT2 = [⟨#[97, 108, 108, 111, 119]⟩, exS, ⟨#[52, 52, 51]⟩] := by kernel_rfl
theorem words3 : wordsS ruleT3 = [⟨#[97, 108, 108, 111, 119]⟩, ⟨#[49, 48, 46, 48, 46, 48, 46, 49, 47, 56]⟩, ⟨#[56, 48]⟩] := by kernel_rfl
theorem right1 : policy_right.f 1 false 10 0 0 0 8 ⟨#[]⟩ 1 65535 = some true := by kernel_rfl
theorem right3 : policy_right.f 1 true 10 0 0 1 8 ⟨#[]⟩ 80 80 = some false := by kernel_rfl
theorem num1 : pnumber.f ⟨#[49]⟩ = some (1, true) := by kernel_rfl
theorem num2 : pnumber.f ⟨#[54, 53, 53, 51, 53]⟩ = some (65535, true) := by kernel_rfl
theorem num3 : pnumber.f ⟨#[56]⟩ = some (8, true) := by kernel_rfl
theorem num4 : pnumber.f ⟨#[52, 52, 51]⟩ = some (443, true) := by kernel_rfl
theorem num5 : pnumber.f ⟨#[56, 48]⟩ = some (80, true) := by kernel_rfl
theorem cut1 : Cut.f ⟨#[49, 45, 54, 53, 53, 51, 53]⟩ ⟨#[45]⟩ = some (⟨#[49]⟩, ⟨#[54, 53, 53, 51, 53]⟩, true) := by kernel_rfl
theorem cut2 : Cut.f ⟨#[52, 52, 51]⟩ ⟨#[45]⟩ = some (⟨#[52, 52, 51]⟩, ⟨#[]⟩, false) := by kernel_rfl
theorem cut3 : Cut.f ⟨#[56, 48]⟩ ⟨#[45]⟩ = some (⟨#[56, 48]⟩, ⟨#[]⟩, false) := by kernel_rfl
theorem cut4 : Cut.f ⟨#[49, 48, 46, 48, 46, 48, 46, 48, 47, 56]⟩ ⟨#[47]⟩ = some (⟨#[49, 48, 46, 48, 46, 48, 46, 48]⟩, ⟨#[56]⟩, true) := by kernel_rfl
theorem cut5 : Cut.f exS ⟨#[47]⟩ = some (exS, ⟨#[]⟩, false) := by kernel_rfl
theorem cut6 : Cut.f ⟨#[49, 48, 46, 48, 46, 48, 46, 49, 47, 56]⟩ ⟨#[47]⟩ = some (⟨#[49, 48, 46, 48, 46, 48, 46, 49]⟩, ⟨#[56]⟩, true) := by kernel_rfl
theorem addr1 : paRes ⟨#[49, 48, 46, 48, 46, 48, 46, 48]⟩ = .inr [10, 0, 0, 0] := by kernel_rfl
theorem addr3 : paRes ⟨#[49, 48, 46, 48, 46, 48, 46, 49]⟩ = .inr [10, 0, 0, 1] := by kernel_rfl
theorem right2 : policy_right.f 1 true 0 0 0 0 0 exS 443 443 = some true := by kernel_rfl
theorem cut_of {s sep a b : ByteArray} {f : Bool} (h : Cut.f s sep = some (a, b, f)) : ∀ W, StdW W → Calls Tryd.prog 23 #[.string s, .string sep] W fun e w' => e = .returned (.tuple #[.string a, .string b, .bool f]) ∧ Below W.heap.size W w' := fun W hS => Cut.calls s sep a b f W hS h
theorem num_of {s : ByteArray} {v : Int} {f : Bool} (h : pnumber.f s = some (v, f)) : ∀ W, StdW W → Calls Tryd.prog 24 #[.string s] W fun e w' => e = .returned (.tuple #[.int .i64 v, .bool f]) ∧ Below W.heap.size W w' := fun W hS => pnumber.calls s v f W hS h
theorem addr_of {s : ByteArray} {a b c d : Int} (hs : s.size ≤ 281474976710656) (h : paRes s = .inr [a, b, c, d]) : ∀ W, StdW W → Calls Tryd.prog 25 #[.string s] W fun e w' => e = .returned (.tuple #[.agg #[.int .u8 a, .int .u8 b, .int .u8 c, .int .u8 d], .nilIface]) ∧ Below W.heap.size W w' := fun W hS => (parseAddr_any s hs W hS).mono fun e w' hp => by
  unfold PAPost at hp
  rw [h] at hp
  exact ⟨hp.2.2, hp.1⟩
theorem right_of {al : Bool} {a b c d bi : Int} {su : ByteArray} {lo hi : Int} {r : Bool} (h : policy_right.f 1 al a b c d bi su lo hi = some r) : ∀ W, StdW W → Calls Tryd.prog 18 #[.agg (rc al a b c d bi su lo hi)] W fun e w' => e = .returned (.bool r) ∧ Below W.heap.size W w' := fun W hS => policy_right.calls 1 al a b c d bi su lo hi r W hS h
theorem parse1 (w : World) (hS : StdW w) : Calls Tryd.prog 11 #[.string ruleT1] w fun e w' => e = .returned (.tuple #[.agg (rc false 10 0 0 0 8 ⟨#[]⟩ 1 65535), .int .i64 0]) ∧ Below w.heap.size w w' := by
  have HSP := split_blanks ruleT1 (by decide)
  rw [words1] at HSP
  exact qq_1 ruleT1 ⟨#[100, 101, 110, 121]⟩ ⟨#[49, 48, 46, 48, 46, 48, 46, 48, 47, 56]⟩ ⟨#[49, 45, 54, 53, 53, 51, 53]⟩ ⟨#[49]⟩ ⟨#[54, 53, 53, 51, 53]⟩ ⟨#[49, 48, 46, 48, 46, 48, 46, 48]⟩ ⟨#[56]⟩ 1 65535 8 10 0 0 0 _ (by decide) (by decide) HSP rfl rfl rfl rfl (by kernel_rfl) (fun _ => by kernel_rfl) (cut_of cut1) (num_of num1) (cut_of cut4) (num_of num2) rfl (num_of num3) (addr_of (by decide) addr1) (right_of right1) w hS
theorem parse2 (w : World) (hS : StdW w) : Calls Tryd.prog 11 #[.string ruleT2] w fun e w' => e = .returned (.tuple #[.agg (rc true 0 0 0 0 0 exS 443 443), .int .i64 0]) ∧ Below w.heap.size w w' := by
  have HSP := split_blanks ruleT2 (by decide)
  rw [words2] at HSP
  exact qq_2 ruleT2 ⟨#[97, 108, 108, 111, 119]⟩ exS ⟨#[52, 52, 51]⟩ ⟨#[52, 52, 51]⟩ ⟨#[]⟩ exS ⟨#[]⟩ 443 _ (by decide) (by decide) HSP rfl rfl rfl rfl (by kernel_rfl) (fun h => by cases h) (cut_of cut2) (num_of num4) (cut_of cut5) (by kernel_rfl) (right_of right2) w hS
theorem parse3 (w : World) (hS : StdW w) : Calls Tryd.prog 11 #[.string ruleT3] w fun e w' => e = .returned zeroRule ∧ Below w.heap.size w w' := by
  have HSP := split_blanks ruleT3 (by decide)
  rw [words3] at HSP
  exact qq_3 ruleT3 ⟨#[97, 108, 108, 111, 119]⟩ ⟨#[49, 48, 46, 48, 46, 48, 46, 49, 47, 56]⟩ ⟨#[56, 48]⟩ ⟨#[56, 48]⟩ ⟨#[]⟩ ⟨#[49, 48, 46, 48, 46, 48, 46, 49]⟩ ⟨#[56]⟩ 80 8 10 0 0 1 _ (by decide) (by decide) HSP rfl rfl rfl rfl (by kernel_rfl) (fun h => by cases h) (cut_of cut3) (num_of num5) (cut_of cut6) (num_of num3) (addr_of (by decide) addr3) (right_of right3) w hS
end Go.Proofs.YteondnhokgmakaaDoor.E


namespace Go.Proofs.YteondnhokgmakaaDoor.E
open Go.RowKit Go.Proofs.YteondnhokgmakaaDoorW.PrintWords Go.Proofs.YteondnhokgmakaaDoorW.PrintLast Go.Proofs.YteondnhokgmakaaDoor.XC
set_option linter.unusedVariables false
set_option linter.unusedSimpArgs false
theorem cut_len1 (s sep : List UInt8) : (Lib.cut s sep).1.length ≤ s.length := by
  unfold Lib.cut
  split
  · simp only [List.length_take]; omega
  · exact Nat.le_refl _
theorem cut_len2 (s sep : List UInt8) : (Lib.cut s sep).2.1.length ≤ s.length := by
  unfold Lib.cut
  split
  · simp only [List.length_drop]; omega
  · exact Nat.zero_le _
theorem words_data (s : ByteArray) : (wordsS s).map (·.data.toList) = Pt.cutOn 32 s.data.toList := by
  unfold wordsS
  rw [Lib.splitB_data, ← Pt.splitK_cutOn]
  first | done | rfl
theorem words_size (s : ByteArray) (p : ByteArray) (h : p ∈ wordsS s) : p.size ≤ s.size := by
  have h1 := size_mem _ _ h
  rw [sumAt_eq, words_data, Pt.tot_cutOn] at h1
  have := Lib.size_eq s
  omega
def ruleC (al : Bool) (c2 c1 : List UInt8 × List UInt8 × Bool) (w1 : ByteArray) : Option S33 :=
  if c1.2.2 then match paRes ⟨c1.1.toArray⟩ with
    | .inl _ => none
    | .inr l => if numOkP c1.2.1 then some ⟨al, ⟨l.getD 0 0, l.getD 1 0, l.getD 2 0, l.getD 3 0⟩, atoiV c1.2.1, ⟨#[]⟩, atoiV c2.1, if c2.2.2 then atoiV c2.2.1 else atoiV c2.1⟩ else none
  else if w1.size = 0 then none else some ⟨al, ⟨0, 0, 0, 0⟩, 0, w1, atoiV c2.1, if c2.2.2 then atoiV c2.2.1 else atoiV c2.1⟩
def ruleOf (al : Bool) (w1 w2 : ByteArray) : Option S33 :=
  (ruleC al (Lib.cut w2.data.toList [45]) (Lib.cut w1.data.toList [47]) w1).filter fun r => numOkP (Lib.cut w2.data.toList [45]).1 && ((if (Lib.cut w2.data.toList [45]).2.2 then numOkP (Lib.cut w2.data.toList [45]).2.1 && (r.f5 != r.f4) else true) && rightB r)
def ppR (s : ByteArray) : Option S33 :=
  if 285 < s.size then none else match wordsS s with
    | [w0, w1, w2] => if w0.toList == [97, 108, 108, 111, 119] then ruleOf true w1 w2 else if w0.toList == [100, 101, 110, 121] then ruleOf false w1 w2 else none
    | _ => none
def ppVal : Option S33 → Value
  | none => zeroRule
  | some r => .tuple #[.agg (rc r.f0 r.f1.f0 r.f1.f1 r.f1.f2 r.f1.f3 r.f2 r.f3 r.f4 r.f5), .int .i64 0]
theorem ppVal_eq (fin : Bool) (r q : S33) (p : S33 → Bool) (hq : q = r) (h : p r = fin) : ppOut fin r.f0 r.f1.f0 r.f1.f1 r.f1.f2 r.f1.f3 r.f2 r.f3 r.f4 r.f5 = ppVal ((some q).filter p) := by
  subst hq
  rw [Option.filter_some, h]
  unfold ppOut
  cases fin <;> rfl
theorem paErr (s : ByteArray) (x : Int × Int) (hs : s.size ≤ 281474976710656) (hr : paRes s = .inl x) : ∀ W, StdW W →
    Calls Tryd.prog 25 #[.string s] W fun e w' => (∃ b, e = .returned (.tuple #[.agg #[.int .u8 0, .int .u8 0, .int .u8 0, .int .u8 0], .iface 91 (.pointer (some ⟨b, 0, none⟩))])) ∧ Below W.heap.size W w' := fun W hS => by
  obtain ⟨a, c⟩ := x
  have h := parseAddr_any s hs W hS
  rw [hr] at h
  exact h.mono (fun e w' ⟨hb, v, he, h⟩ => by
    obtain ⟨b, u, hv, -⟩ := h
    exact ⟨⟨b, by rw [he, hv]⟩, hb⟩)
theorem paOk (s : ByteArray) (l : List Int) (hs : s.size ≤ 281474976710656) (hr : paRes s = .inr l) : ∀ W, StdW W →
    Calls Tryd.prog 25 #[.string s] W fun e w' => e = .returned (.tuple #[.agg #[.int .u8 (l.getD 0 0), .int .u8 (l.getD 1 0), .int .u8 (l.getD 2 0), .int .u8 (l.getD 3 0)], .nilIface]) ∧ Below W.heap.size W w' := fun W hS => by
  have h := parseAddr_any s hs W hS
  rw [hr] at h
  exact h.mono (fun e w' ⟨hb, _, he⟩ => ⟨he, hb⟩)
theorem numOf (l : List UInt8) (hl : l.length ≤ 285) : ∀ W, StdW W → Calls Tryd.prog 24 #[.string ⟨l.toArray⟩] W fun e w' => e = .returned (.tuple #[.int .i64 (atoiV l), .bool (numOkP l)]) ∧ Below W.heap.size W w' :=
  num_of (by unfold pnumber.f; rw [if_pos (by show l.length ≤ _; omega)])
theorem cutOf (s : ByteArray) (c : UInt8) (x : List UInt8 × List UInt8 × Bool) (hx : Lib.cut s.data.toList [c] = x) (hs : s.size ≤ 285) : ∀ W, StdW W → Calls Tryd.prog 23 #[.string s, .string ⟨#[c]⟩] W fun e w' => e = .returned (.tuple #[.string ⟨x.1.toArray⟩, .string ⟨x.2.1.toArray⟩, .bool x.2.2]) ∧ Below W.heap.size W w' :=
  cut_of (by unfold Cut.f; rw [if_pos (by omega)]; subst hx; rfl)
theorem rightOf (r : S33) (hs : r.f3.size ≤ 285) : ∀ W, StdW W → Calls Tryd.prog 18 #[.agg (rc r.f0 r.f1.f0 r.f1.f1 r.f1.f2 r.f1.f3 r.f2 r.f3 r.f4 r.f5)] W fun e w' => e = .returned (.bool (rightB r)) ∧ Below W.heap.size W w' :=
  right_of (rightB_some 0 r (by omega))
theorem parse3w (s w0 w1 w2 : ByteArray) (al : Bool) (hs : s.size ≤ 285) (hw : wordsS s = [w0, w1, w2]) (hal : (w0.toList == [97, 108, 108, 111, 119]) = al) (hde : al = false → (w0.toList == [100, 101, 110, 121]) = true) (w : World) (hS : StdW w) :
    Calls Tryd.prog 11 #[.string s] w fun e w' => e = .returned (ppVal (ruleOf al w1 w2)) ∧ Below w.heap.size w w' := by
  have HSP := split_blanks s (by omega)
  have z1 : w1.size ≤ 285 := Nat.le_trans (words_size s w1 (by rw [hw]; simp)) hs
  have z2 : w2.size ≤ 285 := Nat.le_trans (words_size s w2 (by rw [hw]; simp)) hs
  rw [hw] at HSP
  obtain ⟨⟨low, high, two⟩, hc2⟩ : ∃ x, Lib.cut w2.data.toList [45] = x := ⟨_, rfl⟩
  obtain ⟨⟨net, nn, slash⟩, hc1⟩ : ∃ x, Lib.cut w1.data.toList [47] = x := ⟨_, rfl⟩
  have HC2 := cutOf w2 45 _ hc2 z2
  have HC1 := cutOf w1 47 _ hc1 z1
  have l1 : low.length ≤ 285 := by have := cut_len1 w2.data.toList [45]; rw [hc2, ← Lib.size_eq] at this; exact Nat.le_trans this z2
  have l2 : high.length ≤ 285 := by have := cut_len2 w2.data.toList [45]; rw [hc2, ← Lib.size_eq] at this; exact Nat.le_trans this z2
  have l3 : net.length ≤ 285 := by have := cut_len1 w1.data.toList [47]; rw [hc1, ← Lib.size_eq] at this; exact Nat.le_trans this z1
  have l4 : nn.length ≤ 285 := by have := cut_len2 w1.data.toList [47]; rw [hc1, ← Lib.size_eq] at this; exact Nat.le_trans this z1
  have HN1 := numOf low l1
  have HN2 := numOf high l2
  have HN3 := numOf nn l4
  have hw1e : w1.toList.isEmpty = !decide (w1.size ≠ 0) := by
    rw [size_zero]; by_cases h : w1.size = 0 <;> simp [h]
  unfold ruleOf ruleC
  rw [hc2, hc1]
  cases two <;> cases slash
  · by_cases h0 : w1.size = 0
    · have := pp_001 s w0 w1 w2 ⟨low.toArray⟩ ⟨high.toArray⟩ ⟨net.toArray⟩ ⟨nn.toArray⟩ al (numOkP low) _ (atoiV low) _ _ hs (by omega) HSP rfl rfl rfl rfl hal hde HC2 HN1 HC1 hw1e (rightOf ⟨al, ⟨0, 0, 0, 0⟩, 0, w1, atoiV low, atoiV low⟩ z1) w hS
      refine this.mono fun e w' ⟨he, hb⟩ => ⟨he.trans ?_, hb⟩
      simp [h0, ppOut, ppVal]
    · have := pp_001 s w0 w1 w2 ⟨low.toArray⟩ ⟨high.toArray⟩ ⟨net.toArray⟩ ⟨nn.toArray⟩ al (numOkP low) _ (atoiV low) _ _ hs (by omega) HSP rfl rfl rfl rfl hal hde HC2 HN1 HC1 hw1e (rightOf ⟨al, ⟨0, 0, 0, 0⟩, 0, w1, atoiV low, atoiV low⟩ z1) w hS
      refine this.mono fun e w' ⟨he, hb⟩ => ⟨he.trans (congrArg Ending.returned ?_), hb⟩
      rw [if_neg (by simp), if_neg h0]
      refine ppVal_eq _ ⟨al, ⟨0, 0, 0, 0⟩, 0, w1, atoiV low, atoiV low⟩ _ _ rfl ?_
      simp [h0]
  · rcases hr : paRes ⟨net.toArray⟩ with x | l
    · have := pp_010 s w0 w1 w2 ⟨low.toArray⟩ ⟨high.toArray⟩ ⟨net.toArray⟩ ⟨nn.toArray⟩ al (numOkP low) _ (atoiV low) (atoiV nn) (numOkP nn) _ hs (by omega) HSP rfl rfl rfl rfl hal hde HC2 HN1 HC1 HN3 (paErr _ x (by show net.length ≤ _; omega) hr) (rightOf ⟨al, ⟨0, 0, 0, 0⟩, atoiV nn, ⟨#[]⟩, atoiV low, atoiV low⟩ (show (0 : Nat) ≤ 285 by decide)) w hS
      refine this.mono fun e w' ⟨he, hb⟩ => ⟨he.trans ?_, hb⟩
      simp [ppOut, ppVal, hr]
    · have := pp_011 s w0 w1 w2 ⟨low.toArray⟩ ⟨high.toArray⟩ ⟨net.toArray⟩ ⟨nn.toArray⟩ al (numOkP low) _ (atoiV low) (atoiV nn) (numOkP nn) _ _ _ _ _ hs (by omega) HSP rfl rfl rfl rfl hal hde HC2 HN1 HC1 HN3 (paOk _ l (by show net.length ≤ _; omega) hr) (rightOf ⟨al, ⟨l.getD 0 0, l.getD 1 0, l.getD 2 0, l.getD 3 0⟩, atoiV nn, ⟨#[]⟩, atoiV low, atoiV low⟩ (show (0 : Nat) ≤ 285 by decide)) w hS
      refine this.mono fun e w' ⟨he, hb⟩ => ⟨he.trans (congrArg Ending.returned ?_), hb⟩
      cases hn : numOkP nn
      · simp [ppOut, ppVal]
      · rw [if_pos (by simp)]
        simp only [if_true]
        refine ppVal_eq _ ⟨al, ⟨l.getD 0 0, l.getD 1 0, l.getD 2 0, l.getD 3 0⟩, atoiV nn, ⟨#[]⟩, atoiV low, atoiV low⟩ _ _ rfl ?_
        simp
  · by_cases h0 : w1.size = 0
    · have := pp_101 s w0 w1 w2 ⟨low.toArray⟩ ⟨high.toArray⟩ ⟨net.toArray⟩ ⟨nn.toArray⟩ al (numOkP low) _ (atoiV low) (atoiV high) (numOkP high) _ _ _ hs (by omega) HSP rfl rfl rfl rfl hal hde HC2 HN1 HC1 HN2 rfl hw1e (rightOf ⟨al, ⟨0, 0, 0, 0⟩, 0, w1, atoiV low, atoiV high⟩ z1) w hS
      refine this.mono fun e w' ⟨he, hb⟩ => ⟨he.trans ?_, hb⟩
      simp [h0, ppOut, ppVal]
    · have := pp_101 s w0 w1 w2 ⟨low.toArray⟩ ⟨high.toArray⟩ ⟨net.toArray⟩ ⟨nn.toArray⟩ al (numOkP low) _ (atoiV low) (atoiV high) (numOkP high) _ _ _ hs (by omega) HSP rfl rfl rfl rfl hal hde HC2 HN1 HC1 HN2 rfl hw1e (rightOf ⟨al, ⟨0, 0, 0, 0⟩, 0, w1, atoiV low, atoiV high⟩ z1) w hS
      refine this.mono fun e w' ⟨he, hb⟩ => ⟨he.trans (congrArg Ending.returned ?_), hb⟩
      rw [if_neg (by simp), if_neg h0]
      refine ppVal_eq _ ⟨al, ⟨0, 0, 0, 0⟩, 0, w1, atoiV low, atoiV high⟩ _ _ rfl ?_
      simp [h0]
  · rcases hr : paRes ⟨net.toArray⟩ with x | l
    · have := pp_110 s w0 w1 w2 ⟨low.toArray⟩ ⟨high.toArray⟩ ⟨net.toArray⟩ ⟨nn.toArray⟩ al (numOkP low) _ (atoiV low) (atoiV high) (numOkP high) _ (atoiV nn) (numOkP nn) _ hs (by omega) HSP rfl rfl rfl rfl hal hde HC2 HN1 HC1 HN2 rfl HN3 (paErr _ x (by show net.length ≤ _; omega) hr) (rightOf ⟨al, ⟨0, 0, 0, 0⟩, atoiV nn, ⟨#[]⟩, atoiV low, atoiV high⟩ (show (0 : Nat) ≤ 285 by decide)) w hS
      refine this.mono fun e w' ⟨he, hb⟩ => ⟨he.trans ?_, hb⟩
      simp [ppOut, ppVal, hr]
    · have := pp_111 s w0 w1 w2 ⟨low.toArray⟩ ⟨high.toArray⟩ ⟨net.toArray⟩ ⟨nn.toArray⟩ al (numOkP low) _ (atoiV low) (atoiV high) (numOkP high) _ (atoiV nn) (numOkP nn) _ _ _ _ _ hs (by omega) HSP rfl rfl rfl rfl hal hde HC2 HN1 HC1 HN2 rfl HN3 (paOk _ l (by show net.length ≤ _; omega) hr) (rightOf ⟨al, ⟨l.getD 0 0, l.getD 1 0, l.getD 2 0, l.getD 3 0⟩, atoiV nn, ⟨#[]⟩, atoiV low, atoiV high⟩ (show (0 : Nat) ≤ 285 by decide)) w hS
      refine this.mono fun e w' ⟨he, hb⟩ => ⟨he.trans (congrArg Ending.returned ?_), hb⟩
      cases hn : numOkP nn
      · simp [ppOut, ppVal]
      · rw [if_pos (by simp)]
        simp only [if_true]
        refine ppVal_eq _ ⟨al, ⟨l.getD 0 0, l.getD 1 0, l.getD 2 0, l.getD 3 0⟩, atoiV nn, ⟨#[]⟩, atoiV low, atoiV high⟩ _ _ rfl ?_
        simp
theorem pparse_any (s : ByteArray) (hs : s.size < 4294967281) (w : World) (hS : StdW w) :
    Calls Tryd.prog 11 #[.string s] w fun e w' => e = .returned (ppVal (ppR s)) ∧ Below w.heap.size w w' := by
  unfold ppR
  by_cases h1 : 285 < s.size
  · rw [if_pos h1]
    exact pp_head s hs (.inl h1) w hS
  · rw [if_neg h1]
    split
    · rename_i w0 w1 w2 hw
      split
      · rename_i ha
        exact parse3w s w0 w1 w2 true (by omega) hw ha (fun h => by cases h) w hS
      · rename_i ha
        have ha' : (w0.toList == [97, 108, 108, 111, 119]) = false := by simpa using ha
        split
        · rename_i hd
          exact parse3w s w0 w1 w2 false (by omega) hw ha' (fun _ => hd) w hS
        · rename_i hd
          have hd' : (w0.toList == [100, 101, 110, 121]) = false := by simpa using hd
          exact pp_head s hs (.inr (.inr ⟨by rw [hw]; exact Nat.succ_pos 2, by simp only [hw, List.getElem_cons_zero]; exact ⟨ha', hd'⟩⟩)) w hS
    · rename_i hw
      refine pp_head s hs (.inr (.inl fun h3 => ?_)) w hS
      match hl : wordsS s, h3 with
      | [a, b, c], _ => exact hw _ _ _ hl
def pParse.f (s : ByteArray) : Option (Bool × Int × Int × Int × Int × Int × ByteArray × Int × Int × Int) :=
  if s.size < 4294967281 then some (match ppR s with
    | none => (false, 0, 0, 0, 0, 0, ⟨#[]⟩, 0, 0, 120)
    | some r => (r.f0, r.f1.f0, r.f1.f1, r.f1.f2, r.f1.f3, r.f2, r.f3, r.f4, r.f5, 0)) else none
theorem pParse.calls (s : ByteArray) (r1 : Bool) (r2 r3 r4 r5 r6 : Int) (r7 : ByteArray) (r8 r9 r10 : Int) (w : World) (hS_ : StdW w) (h : pParse.f s = some (r1, r2, r3, r4, r5, r6, r7, r8, r9, r10)) :
    Calls Tryd.prog 11 #[.string s] w fun e w' => e = .returned (.tuple #[.agg #[.bool r1, .int .u8 r2, .int .u8 r3, .int .u8 r4, .int .u8 r5, .int .i64 r6, .string r7, .int .i64 r8, .int .i64 r9], .int .i64 r10]) ∧ Below w.heap.size w w' := by
  unfold pParse.f at h
  split at h
  · rename_i hs
    have h := Option.some.inj h
    refine (pparse_any s hs w hS_).mono fun e w' ⟨he, hb⟩ => ⟨he.trans (congrArg Ending.returned ?_), hb⟩
    split at h
    · rename_i hr; rw [hr]; cases h; rfl
    · rename_i r hr; rw [hr]; cases h; rfl
  · cases h
end Go.Proofs.YteondnhokgmakaaDoor.E


namespace Go.Proofs.YteondnhokgmakaaDoor.E
open Go.RowKit Go.Proofs.YteondnhokgmakaaDoorW.PrintWords Go.Proofs.YteondnhokgmakaaDoorW.PrintLast Go.Proofs.YteondnhokgmakaaDoor.XC
set_option linter.unusedVariables false
set_option linter.unusedSimpArgs false
def inB8 (a : Int) : Prop := 0 ≤ a ∧ a ≤ 255
def bytesR (r : S33) : Prop := inB8 r.f1.f0 ∧ inB8 r.f1.f1 ∧ inB8 r.f1.f2 ∧ inB8 r.f1.f3
def whereL (r : S33) : List UInt8 := if r.f3.size = 0 then (addrS r.f1.f0 r.f1.f1 r.f1.f2 r.f1.f3).data.toList ++ 47 :: Lib.itoa r.f2 else r.f3.data.toList
def portsL (lo hi : Int) : List UInt8 := if lo < hi then Lib.itoa lo ++ 45 :: Lib.itoa hi else Lib.itoa lo
def wordL (al : Bool) : List UInt8 := if al then [97, 108, 108, 111, 119] else [100, 101, 110, 121]
def textL (r : S33) : List UInt8 := wordL r.f0 ++ 32 :: (whereL r ++ 32 :: portsL r.f4 r.f5)
theorem itoa_len (n : Int) (h0 : 0 ≤ n) (h1 : n < 100000) : (Lib.itoa n).length ≤ 5 := by
  rw [itoa_dec n h0, Lib.decDigits_length]
  exact Num.nDigits_le 5 _ (by omega) (by decide)
theorem size_nil {s : ByteArray} (h : s.size = 0) : s = ⟨#[]⟩ := data_inj (List.eq_nil_of_length_eq_zero (by rw [← Lib.size_eq]; exact h))
theorem word_free (al : Bool) : (32 : UInt8) ∉ wordL al := by cases al <;> decide
theorem ports_free (lo hi : Int) (h0 : 0 ≤ lo) (h1 : 0 ≤ hi) (c : UInt8) (hc : c.toNat < 45) : c ∉ portsL lo hi := by
  unfold portsL
  split
  · rw [List.mem_append, List.mem_cons]
    rintro (h | h | h)
    · exact itoa_not lo h0 c (by omega) h
    · subst h; exact absurd hc (by decide)
    · exact itoa_not hi h1 c (by omega) h
  · exact itoa_not lo h0 c (by omega)
theorem addr_free (a b c d : Int) (ha : inB8 a) (hb : inB8 b) (hc : inB8 c) (hd : inB8 d) (x : UInt8) (h1 : x ≠ 46) (h2 : x.toNat < 48) : x ∉ (addrS a b c d).data.toList := by
  rw [addrS_list]
  simp only [List.mem_append, List.mem_cons, not_or]
  exact ⟨itoa_not a ha.1 x h2, h1, itoa_not b hb.1 x h2, h1, itoa_not c hc.1 x h2, h1, itoa_not d hd.1 x h2⟩
theorem name_free (n : ByteArray) (h0 : n.size ≠ 0) (h : checkB 0 0 0 0 n = true) : (32 : UInt8) ∉ n.data.toList ∧ (47 : UInt8) ∉ n.data.toList := by
  have := List.all_eq_true.1 (check_clean 0 0 0 0 n h0 h).2
  exact ⟨fun hm => (of_decide_eq_true (this _ hm)).1 rfl, fun hm => (of_decide_eq_true (this _ hm)).2.1 rfl⟩
theorem where_free (r : S33) (hs : r.f3.size ≤ 281474976710656) (hb : bytesR r) (h : rightB r = true) : (32 : UInt8) ∉ whereL r := by
  obtain ⟨-, -, -, h4, h5⟩ := right_facts r hs h
  unfold whereL
  split
  · rename_i h0
    rw [List.mem_append, List.mem_cons]
    rintro (hm | hm | hm)
    · exact addr_free _ _ _ _ hb.1 hb.2.1 hb.2.2.1 hb.2.2.2 32 (by decide) (by decide) hm
    · exact absurd hm (by decide)
    · exact itoa_not r.f2 (h4 h0).1 32 (by decide) hm
  · rename_i h0
    exact (name_free r.f3 h0 (h5 h0).1).1
theorem where_len (r : S33) (hs : r.f3.size ≤ 281474976710656) (hb : bytesR r) (h : rightB r = true) : (whereL r).length ≤ 253 := by
  obtain ⟨-, -, -, h4, h5⟩ := right_facts r hs h
  unfold whereL
  split
  · rename_i h0
    have l1 := addrS_size _ _ _ _ hb.1.1 hb.1.2 hb.2.1.1 hb.2.1.2 hb.2.2.1.1 hb.2.2.1.2 hb.2.2.2.1 hb.2.2.2.2
    rw [Lib.size_eq] at l1
    have l2 := itoa_len r.f2 (h4 h0).1 (by have := (h4 h0).2; omega)
    rw [List.length_append, List.length_cons]
    omega
  · rename_i h0
    rw [← Lib.size_eq]
    exact (check_clean 0 0 0 0 r.f3 h0 (h5 h0).1).1
theorem ports_len (lo hi : Int) (h0 : 0 ≤ lo) (h1 : lo ≤ hi) (h2 : hi ≤ 65535) : (portsL lo hi).length ≤ 11 := by
  have l1 := itoa_len lo h0 (by omega)
  have l2 := itoa_len hi (by omega) (by omega)
  unfold portsL
  split
  · rw [List.length_append, List.length_cons]; omega
  · omega
theorem text_len (r : S33) (hs : r.f3.size ≤ 281474976710656) (hb : bytesR r) (h : rightB r = true) : (textL r).length ≤ 285 := by
  obtain ⟨h1, h2, h3, -, -⟩ := right_facts r hs h
  have l1 := where_len r hs hb h
  have l2 := ports_len r.f4 r.f5 (by omega) h3 h2
  have l3 : (wordL r.f0).length ≤ 5 := by cases r.f0 <;> decide
  unfold textL
  simp only [List.length_append, List.length_cons]
  omega
theorem text_words (r : S33) (hs : r.f3.size ≤ 281474976710656) (hb : bytesR r) (h : rightB r = true) : wordsS ⟨(textL r).toArray⟩ = [⟨(wordL r.f0).toArray⟩, ⟨(whereL r).toArray⟩, ⟨(portsL r.f4 r.f5).toArray⟩] := by
  obtain ⟨h1, h2, h3, -, -⟩ := right_facts r hs h
  apply map_data_inj
  rw [words_data]
  show Pt.cutOn 32 (textL r) = [wordL r.f0, whereL r, portsL r.f4 r.f5]
  unfold textL
  rw [cutOn_app1 32 _ _ (word_free _), cutOn_app1 32 _ _ (where_free r hs hb h), cutOn_none1 32 _ (ports_free _ _ (by omega) (by omega) 32 (by decide))]
theorem ports_cut (lo hi : Int) (h0 : 0 ≤ lo) (h1 : lo ≤ hi) (h2 : hi ≤ 65535) : Lib.cut (portsL lo hi) [45] = (Lib.itoa lo, if lo < hi then Lib.itoa hi else [], decide (lo < hi)) := by
  unfold portsL
  by_cases h : lo < hi
  · rw [if_pos h, if_pos h, cut_app1 45 _ _ (itoa_not lo h0 45 (by decide)), decide_eq_true h]
  · rw [if_neg h, if_neg h, cut_none1 45 _ (itoa_not lo h0 45 (by decide)), decide_eq_false h]
theorem text_rule (r : S33) (hs : r.f3.size ≤ 281474976710656) (hb : bytesR r) (h : rightB r = true) : ruleOf r.f0 ⟨(whereL r).toArray⟩ ⟨(portsL r.f4 r.f5).toArray⟩ = some r := by
  obtain ⟨h1, h2, h3, h4, h5⟩ := right_facts r hs h
  have e : ∀ l : List UInt8, (⟨l.toArray⟩ : ByteArray).data.toList = l := fun l => rfl
  have hlo := numP_itoa r.f4 (by omega) (by omega)
  have hhi := numP_itoa r.f5 (by omega) (by omega)
  have hfin : ∀ q, q = r → (some q).filter (fun r => numOkP (Lib.cut (portsL q.f4 q.f5) [45]).1 && ((if (Lib.cut (portsL q.f4 q.f5) [45]).2.2 then numOkP (Lib.cut (portsL q.f4 q.f5) [45]).2.1 && (r.f5 != r.f4) else true) && rightB r)) = some r := by
    rintro q rfl
    rw [Option.filter_some, if_pos]
    rw [ports_cut q.f4 q.f5 (by omega) h3 h2]
    simp only [hlo.1, h, Bool.true_and, Bool.and_true]
    by_cases hlt : q.f4 < q.f5
    · simp only [decide_eq_true hlt, if_true, if_pos hlt, hhi.1, Bool.true_and, bne_iff_ne]; omega
    · simp [hlt]
  have hp : (if (Lib.cut (portsL r.f4 r.f5) [45]).2.2 then atoiV (Lib.cut (portsL r.f4 r.f5) [45]).2.1 else atoiV (Lib.cut (portsL r.f4 r.f5) [45]).1) = r.f5 := by
    rw [ports_cut r.f4 r.f5 (by omega) h3 h2]
    by_cases hlt : r.f4 < r.f5
    · simp only [decide_eq_true hlt, if_true, if_pos hlt, hhi.2]
    · simp only [decide_eq_false hlt, if_neg hlt, Bool.false_eq_true, if_false, hlo.2]; omega
  have hl : atoiV (Lib.cut (portsL r.f4 r.f5) [45]).1 = r.f4 := by rw [ports_cut r.f4 r.f5 (by omega) h3 h2]; exact hlo.2
  unfold ruleOf
  rw [e, e]
  refine Eq.trans (congrArg (Option.filter _) (?_ : _ = some r)) (hfin r rfl)
  unfold ruleC
  rw [hp, hl]
  by_cases h0 : r.f3.size = 0
  · have hw : whereL r = (addrS r.f1.f0 r.f1.f1 r.f1.f2 r.f1.f3).data.toList ++ 47 :: Lib.itoa r.f2 := by unfold whereL; rw [if_pos h0]
    have hbi := numP_itoa r.f2 (h4 h0).1 (by have := (h4 h0).2; omega)
    rw [hw, cut_app1 47 _ _ (addr_free _ _ _ _ hb.1 hb.2.1 hb.2.2.1 hb.2.2.2 47 (by decide) (by decide)), if_pos rfl]
    show (match paRes (addrS r.f1.f0 r.f1.f1 r.f1.f2 r.f1.f3) with
      | .inl _ => none
      | .inr l => _) = _
    rw [paRes_addrS _ _ _ _ hb.1.1 hb.1.2 hb.2.1.1 hb.2.1.2 hb.2.2.1.1 hb.2.2.1.2 hb.2.2.2.1 hb.2.2.2.2]
    simp only [hbi.1, if_true, hbi.2]
    have := size_nil h0
    obtain ⟨f0, ⟨a, b, c, d⟩, f2, f3, f4, f5⟩ := r
    simp only at this
    subst this
    rfl
  · have hw : whereL r = r.f3.data.toList := by unfold whereL; rw [if_neg h0]
    obtain ⟨hc, z0, z1, z2, z3, z4⟩ := h5 h0
    rw [hw, cut_none1 47 _ (name_free r.f3 h0 hc).2]
    simp only [Bool.false_eq_true, if_false]
    rw [if_neg (show ¬ (⟨r.f3.data.toList.toArray⟩ : ByteArray).size = 0 from h0)]
    obtain ⟨f0, ⟨a, b, c, d⟩, f2, f3, f4, f5⟩ := r
    simp only at z0 z1 z2 z3 z4
    subst z0 z1 z2 z3 z4
    rfl
theorem text_parse (r : S33) (hs : r.f3.size ≤ 281474976710656) (hb : bytesR r) (h : rightB r = true) : ppR ⟨(textL r).toArray⟩ = some r := by
  have hl := text_len r hs hb h
  unfold ppR
  rw [if_neg (show ¬ 285 < (⟨(textL r).toArray⟩ : ByteArray).size from (by show ¬ 285 < (textL r).length; omega)), text_words r hs hb h]
  have := text_rule r hs hb h
  cases hal : r.f0 with
  | true => rw [hal] at this; simp only [wordL, if_true]; rw [if_pos (by kernel_rfl)]; exact this
  | false => rw [hal] at this; simp only [wordL, Bool.false_eq_true, if_false]; rw [if_neg (by rw [show (((⟨#[100, 101, 110, 121]⟩ : ByteArray).toList == [97, 108, 108, 111, 119]) = false) by kernel_rfl]; decide), if_pos (by kernel_rfl)]; exact this
theorem back_rule (al : Bool) (w1 w2 : ByteArray) (r : S33) (hz : w1.size ≤ 285) (h : ruleOf al w1 w2 = some r) :
    r.f0 = al ∧ rightB r = true ∧ bytesR r ∧ r.f3.size ≤ 285 ∧ whereL r = w1.data.toList ∧ portsL r.f4 r.f5 = w2.data.toList := by
  unfold ruleOf at h
  obtain ⟨hc, hf⟩ := Option.filter_eq_some_iff.1 h
  simp only [Bool.and_eq_true] at hf
  obtain ⟨hA, hB, hR⟩ := hf
  have nA := numP_back _ hA
  
  have hports : ∀ (lo hi : Int), lo = atoiV (Lib.cut w2.data.toList [45]).1 → hi = (if (Lib.cut w2.data.toList [45]).2.2 then atoiV (Lib.cut w2.data.toList [45]).2.1 else atoiV (Lib.cut w2.data.toList [45]).1) → r.f4 = lo → r.f5 = hi → r.f4 ≤ r.f5 → portsL lo hi = w2.data.toList := by
    rintro lo hi rfl rfl e4 e5 hle
    rcases cut_split 45 w2.data.toList with ⟨hn, hcut⟩ | ⟨a, b, hl, hn, hcut⟩
    · rw [hcut] at nA ⊢
      unfold portsL
      simp only [Bool.false_eq_true, if_false] at nA ⊢
      rw [if_neg (by omega), nA.1]
    · rw [hcut] at nA hB e4 e5 ⊢
      simp only [if_true, Bool.and_eq_true, bne_iff_ne] at nA hB e4 e5 ⊢
      have nB := numP_back _ hB.1
      unfold portsL
      rw [if_pos (by have := hB.2; omega), nA.1, nB.1, hl]
  unfold ruleC at hc
  rcases cut_split 47 w1.data.toList with ⟨hn, hcut⟩ | ⟨a, b, hl, hn, hcut⟩
  · rw [hcut] at hc
    simp only [Bool.false_eq_true, if_false] at hc
    split at hc
    · cases hc
    · rename_i h0
      have hc := Option.some.inj hc
      subst hc
      have hle := (right_facts _ (Nat.le_trans hz (by decide)) hR).2.2.1
      have z8 : inB8 0 := ⟨by decide, by decide⟩
      exact ⟨rfl, hR, ⟨z8, z8, z8, z8⟩, hz, if_neg h0, hports _ _ rfl rfl rfl rfl hle⟩
  · rw [hcut] at hc
    simp only [if_true] at hc
    split at hc
    · cases hc
    · rename_i l hr
      split at hc
      · rename_i hk
        have hc := Option.some.inj hc
        obtain ⟨x, y, z, t, rfl, hs, bx, by_, bz, bt⟩ := paRes_back _ _ hr
        have nK := numP_back _ hk
        subst hc
        have hle := (right_facts ⟨al, ⟨x, y, z, t⟩, atoiV b, ⟨#[]⟩, _, _⟩ (show (0 : Nat) ≤ 281474976710656 by decide) hR).2.2.1
        refine ⟨rfl, hR, ⟨bx, by_, bz, bt⟩, (show (0 : Nat) ≤ 285 by decide), ?_, hports _ _ rfl rfl rfl rfl hle⟩
        show (addrS x y z t).data.toList ++ 47 :: Lib.itoa (atoiV b) = w1.data.toList
        rw [← hs, nK.1, hl]
      · cases hc
theorem text_back (s : ByteArray) (r : S33) (h : ppR s = some r) : rightB r = true ∧ bytesR r ∧ r.f3.size ≤ 285 ∧ textL r = s.data.toList := by
  unfold ppR at h
  split at h
  · cases h
  · rename_i hs
    have hj := Pt.join_cutOn 32 s.data.toList
    rw [← words_data] at hj
    split at h
    · rename_i w0 w1 w2 hw
      have hz : w1.size ≤ 285 := Nat.le_trans (words_size s w1 (by rw [hw]; simp)) (by omega)
      rw [hw] at hj
      simp only [List.map_cons, List.map_nil, List.intercalate, List.intersperse, List.flatten_cons, List.flatten_nil, List.append_nil] at hj
      have hfin : ∀ al, ruleOf al w1 w2 = some r → w0.data.toList = wordL al → rightB r = true ∧ bytesR r ∧ r.f3.size ≤ 285 ∧ textL r = s.data.toList := by
        intro al hr h0
        obtain ⟨e0, hR, hb, h3, hwh, hpo⟩ := back_rule al w1 w2 r hz hr
        refine ⟨hR, hb, h3, ?_⟩
        unfold textL
        rw [e0, hwh, hpo, ← h0, ← hj]
        rfl
      split at h
      · rename_i ha
        exact hfin true h (by rw [← ByteArray.toList_eq]; exact eq_of_beq ha)
      · split at h
        · rename_i hd
          exact hfin false h (by rw [← ByteArray.toList_eq]; exact eq_of_beq hd)
        · cases h
    · cases h
end Go.Proofs.YteondnhokgmakaaDoor.E


namespace Go.Proofs.YteondnhokgmakaaDoor.E
open Go.RowKit Go.Proofs.YteondnhokgmakaaDoorW.PrintWords Go.Proofs.YteondnhokgmakaaDoorW.PrintLast Go.Proofs.YteondnhokgmakaaDoor.XC
set_option linter.unusedVariables false
set_option linter.unusedSimpArgs false
def sized (l : List S33) : Bool := l.all fun r => decide (r.f3.size ≤ 281474976710656)
theorem sized_mem {l : List S33} (h : sized l = true) : ∀ r ∈ l, r.f3.size ≤ 281474976710656 := fun r hr => of_decide_eq_true (List.all_eq_true.1 h r hr)
def Which.f (l : List S33) (a b c d : Int) (n : ByteArray) (po : Int) : Option Int :=
  if ((0 ≤ a ∧ a ≤ 255) ∧ (0 ≤ b ∧ b ≤ 255) ∧ (0 ≤ c ∧ c ≤ 255) ∧ (0 ≤ d ∧ d ≤ 255) ∧ n.size ≤ 281474976710656) ∧ sized l = true then some (whichB l a b c d n po) else none
theorem Which.calls (A0 : Option Addr) (c0 : Nat) (l0 : List S33) (a b c d : Int) (n : ByteArray) (po : Int) (r : Int) (w : World) (hr0 : Kd.C k33 w A0 l0.length l0) (hc0 : l0.length ≤ c0) (hS_ : StdW w) (h : Which.f l0 a b c d n po = some r) :
    Calls Tryd.prog 7 #[.slice A0 l0.length c0, .agg #[.int .u8 a, .int .u8 b, .int .u8 c, .int .u8 d, .string n, .int .i64 po]] w fun e w' => e = .returned (.int .i64 r) ∧ Below w.heap.size w w' := by
  unfold Which.f at h
  split at h
  · rename_i hc
    obtain rfl := Option.some.inj h
    have hz := sized_mem hc.2
    have HCK : ∀ W, Below w.heap.size w W → Calls Tryd.prog 14 #[.slice A0 l0.length c0] W fun e w' => e = .returned (.int .i64 (checkL l0)) ∧ Below W.heap.size W w' := fun W hb => policy_Check.calls 67 A0 c0 l0 _ W (Kd.C_below hr0 hb) hc0 (StdW.below hS_ hb) (checkL_some l0 hz)
    have HPD : ∀ W, StdW W → Calls Tryd.prog 15 #[.agg (dc a b c d n po)] W fun e w' => e = .returned (.string (printDestB a b c d n po)) ∧ Below W.heap.size W w' := fun W hW => hPrintDest.calls a b c d n po _ W hW (by unfold hPrintDest.f; rw [if_pos hc.1])
    unfold whichB
    by_cases h1 : checkL l0 = 0
    · rw [if_pos h1]
      cases h2 : (printDestB a b c d n po).toList.isEmpty
      · have hl : l0.length ≤ 64 := by
          unfold checkL at h1
          by_cases hh : 64 < l0.length
          · rw [if_pos hh] at h1; cases h1
          · omega
        rw [if_neg (by simp)]
        exact which_go A0 c0 l0 a b c d n po hl hc.1.2.2.2.2 h1 h2 w hS_ hr0 HCK HPD
      · rw [if_pos rfl]
        exact which_no A0 c0 l0 a b c d n po (.inr h2) w hS_ HCK HPD
    · rw [if_neg h1]
      exact which_no A0 c0 l0 a b c d n po (.inl h1) w hS_ HCK HPD
  · cases h
end Go.Proofs.YteondnhokgmakaaDoor.E


namespace Go.Proofs.YteondnhokgmakaaDoor.XM
open Go.Proofs.YteondnhokgmakaaDoor.XC
open Go.RowKit Go.Proofs.YteondnhokgmakaaDoorW.PrintWords Go.Proofs.YteondnhokgmakaaDoorW.PrintLast Go.Proofs.YteondnhokgmakaaDoorW.PrintMore
attribute [local go_sem] max2_int min2_int max_two min_two max_three min_three max_four min_four
set_option linter.unusedVariables false
set_option linter.unusedSimpArgs false
end Go.Proofs.YteondnhokgmakaaDoor.XM


namespace Go.Proofs.YteondnhokgmakaaDoor.XM
open Go.Proofs.YteondnhokgmakaaDoor.XC
open Go.RowKit Go.Proofs.YteondnhokgmakaaDoorW.PrintWords Go.Proofs.YteondnhokgmakaaDoorW.PrintLast Go.Proofs.YteondnhokgmakaaDoorW.PrintMore
attribute [local go_sem] max2_int min2_int max_two min_two max_three min_three max_four min_four
set_option linter.unusedVariables false
set_option linter.unusedSimpArgs false
def policy_May.f (l0 : List (S33)) (a1_0 : Int) (a1_1 : Int) (a1_2 : Int) (a1_3 : Int) (a1_4 : ByteArray) (a1_5 : Int) : Option (Bool) := (E.Which.f l0 a1_0 a1_1 a1_2 a1_3 a1_4 a1_5).bind fun t102 => (if t102 ≥ 0 then (if 0 ≤ t102 then (if t102 < (l0.length : Int) then (some ((rd_T33 l0 t102).f0)) else (none)) else (none)) else (some false))
set_option maxHeartbeats 8000000 in
set_option maxRecDepth 100000 in
theorem policy_May.calls (A0 : Option Addr) (c0 : Nat) (l0 : List (S33)) (a1_0 : Int) (a1_1 : Int) (a1_2 : Int) (a1_3 : Int) (a1_4 : ByteArray) (a1_5 : Int) (r : Bool) (w : World) (hr0 : Kd.C k33 w A0 l0.length l0) (hc0 : l0.length ≤ c0) (hS_ : StdW w) (h : policy_May.f l0 a1_0 a1_1 a1_2 a1_3 a1_4 a1_5 = some r) :
    Calls Tryd.prog 8 #[.slice A0 l0.length c0, .agg #[.int .u8 a1_0, .int .u8 a1_1, .int .u8 a1_2, .int .u8 a1_3, .string a1_4, .int .i64 a1_5]] w fun e w' => e = .returned (.bool r) ∧ Below w.heap.size w w' := by
  have hu28 := Tryd.underlying28
  have HR0 := Aside0.mk hr0
  have HC0 := Aside0.mk hc0
  clear hr0 hc0
  have HS_ := Aside0.mk hS_
  clear hS_
  have HB := Aside0.mk (Below.refl w.heap.size w)
  have H : ((E.Which.f l0 a1_0 a1_1 a1_2 a1_3 a1_4 a1_5).bind fun t102 => (if t102 ≥ 0 then (if 0 ≤ t102 then (if t102 < (l0.length : Int) then (some ((rd_T33 l0 t102).f0)) else (none)) else (none)) else (some false))) = some r := h
  clear h
  replace H := Option.bind_eq_some_iff.mp H
  obtain ⟨t102, A30, H⟩ := H
  replace H : (if t102 ≥ 0 then (if 0 ≤ t102 then (if t102 < (l0.length : Int) then (some ((rd_T33 l0 t102).f0)) else (none)) else (none)) else (some false)) = some r := H
  have A3 := Aside0.mk A30
  clear A30
  by_cases c4 : t102 ≥ 0
  · rw [if_pos c4] at H
    have c4b0 : decide (0 ≤ t102) = true := decide_eq_true c4
    clear c4
    by_cases c5 : 0 ≤ t102
    · rw [if_pos c5] at H
      have c5b0 : decide (0 ≤ t102) = true := decide_eq_true c5
      clear c5
      by_cases c6 : t102 < (l0.length : Int)
      · rw [if_pos c6] at H
        have c6b0 : decide (t102 < (l0.length : Int)) = true := decide_eq_true c6
        clear c6
        obtain rfl := Option.some.inj H
        go_enter Tryd.func8, Tryd.ntmps8
        go_wp2_with (first | ((with_reducible refine gate_dst (N := 3) rfl ?_); refine box_event ?hg (N := 3) ?hd (cs := #[.int .u8 a1_0, .int .u8 a1_1, .int .u8 a1_2, .int .u8 a1_3, .string a1_4, .int .i64 a1_5]) (t := 28) ?hr ?_; (case hd => rfl); (case hg => rfl); (case hr => first | (go_simp; done) | (go_simp; rfl)); intro gb101 hg w7 hbox hb; have n0_ := Aside0.mk (below_step (by repeat (first | (with_reducible first | exact HB.out | apply below_alloc | apply pw_below_drewN | apply below_drew1) | exact HB.out)) hb); have n1_ := Aside0.mk (hbox); have n2_ := Aside0.mk ((by rw [hg]; exact (below_size (by repeat (first | (with_reducible first | exact HB.out | apply below_alloc | apply pw_below_drewN | apply below_drew1) | exact HB.out))) : w.heap.size ≤ gb101)); have n3_ := Aside0.mk ((by rw [hg]; exact (below_size (by repeat (first | (with_reducible first | exact HB.out | apply below_alloc | apply pw_below_drewN | apply below_drew1) | exact HB.out))) : w.heap.size ≤ gb101)); clear HB; have HB := n0_; have BK101 := n1_; have GW101 := n2_; have GE101 := n3_; clear n0_ n1_ n2_ n3_; clear hb hbox hg; have hcz8_0 : w7.cell? ⟨gb101, 0, none⟩ = some (.int .u8 a1_0) := (blk_cell BK101.out 0).trans rfl; have hcz8_1 : w7.cell? ⟨gb101, 1, none⟩ = some (.int .u8 a1_1) := (blk_cell BK101.out 1).trans rfl; have hcz8_2 : w7.cell? ⟨gb101, 2, none⟩ = some (.int .u8 a1_2) := (blk_cell BK101.out 2).trans rfl; have hcz8_3 : w7.cell? ⟨gb101, 3, none⟩ = some (.int .u8 a1_3) := (blk_cell BK101.out 3).trans rfl; have hcz8_4 : w7.cell? ⟨gb101, 4, none⟩ = some (.string a1_4) := (blk_cell BK101.out 4).trans rfl; have hcz8_5 : w7.cell? ⟨gb101, 5, none⟩ = some (.int .i64 a1_5) := (blk_cell BK101.out 5).trans rfl; have hfz8_0 := blk_frozen BK101.out 0; have hfz8_1 := blk_frozen BK101.out 1; have hfz8_2 := blk_frozen BK101.out 2; have hfz8_3 := blk_frozen BK101.out 3; have hfz8_4 := blk_frozen BK101.out 4; have hfz8_5 := blk_frozen BK101.out 5) | ((with_reducible refine gate_callee (f := 7) rfl ?_); refine goesL_ (some 8) rfl rfl Tryd.func7 (by kernel_rfl) rfl #[.slice A0 l0.length c0, .agg #[.int .u8 a1_0, .int .u8 a1_1, .int .u8 a1_2, .int .u8 a1_3, .string a1_4, .int .i64 a1_5]] rfl (by (try simp only [List.map_toArray, List.map_cons, List.map_nil]); first | done | rfl | (simp only [List.length_drop, List.length_take]; rfl)) ?_; (with_reducible refine (E.Which.calls _ _ l0 a1_0 a1_1 a1_2 a1_3 a1_4 a1_5 t102 _ ?side1 ?side2 ?side3 A3.out).mono ?_); (case side1 => repeat (first | exact (Kd.C_below HR0.out HB.out) | (with_reducible refine Kd.C_alloc ?_ _) | (with_reducible refine Kd.C_drewN ?_ _) | (with_reducible refine Kd.C_drew ?_))); (case side2 => exact HC0.out); (case side3 => exact StdW.below HS_.out (by repeat (first | (with_reducible first | exact HB.out | apply below_alloc | apply pw_below_drewN | apply below_drew1 | refine below_set ?_ GE101.out) | exact HB.out))); rintro e w9 ⟨rfl, hb⟩; refine ⟨_, rfl, ?_⟩; have n0_ := Aside0.mk (blk_below (g := gb101) (o := .cells #[.int .u8 a1_0, .int .u8 a1_1, .int .u8 a1_2, .int .u8 a1_3, .string a1_4, .int .i64 a1_5] 28 (0, 0)) (by (with_reducible repeat (first | refine blk_drewN ?_ _ | refine blk_drew ?_ | refine blk_alloc ?_ _)); exact BK101.out) hb); have n1_ := Aside0.mk (below_step (by repeat (first | (with_reducible first | exact HB.out | apply below_alloc | apply pw_below_drewN | apply below_drew1 | refine below_set ?_ GE101.out) | exact HB.out)) hb); clear BK101; clear HB; have BK101 := n0_; have HB := n1_; clear n0_ n1_; (try clear hb); (try clear hb2); (try clear hk); (try clear hi); have p103 : 0 ≤ (t102 : Int) := of_decide_eq_true (by first | (with_reducible assumption) | assumption); have q103 : t102 < (l0.length : Int) := of_decide_eq_true (by first | (with_reducible assumption) | assumption); obtain ⟨ad103, e103, hx103_0, hx103_1, hx103_2, hx103_3, hx103_4, hx103_5, hx103_6, hx103_7, hx103_8⟩ := at_T33 HR0.out t102 p103 q103; cases e103; replace hx103_0 := (HB.out.cell (World.block_lt_of_cell? w _ hx103_0)).trans hx103_0; replace hx103_1 := (HB.out.cell (World.block_lt_of_cell? w _ hx103_1)).trans hx103_1; replace hx103_2 := (HB.out.cell (World.block_lt_of_cell? w _ hx103_2)).trans hx103_2; replace hx103_3 := (HB.out.cell (World.block_lt_of_cell? w _ hx103_3)).trans hx103_3; replace hx103_4 := (HB.out.cell (World.block_lt_of_cell? w _ hx103_4)).trans hx103_4; replace hx103_5 := (HB.out.cell (World.block_lt_of_cell? w _ hx103_5)).trans hx103_5; replace hx103_6 := (HB.out.cell (World.block_lt_of_cell? w _ hx103_6)).trans hx103_6; replace hx103_7 := (HB.out.cell (World.block_lt_of_cell? w _ hx103_7)).trans hx103_7; replace hx103_8 := (HB.out.cell (World.block_lt_of_cell? w _ hx103_8)).trans hx103_8; replace p103 := eq_true p103; replace q103 := eq_true q103))
        go_ret
        exact ⟨by first | rfl | (simp [errW_none, errW_some] <;> rfl) | (simp [*, errW_none, errW_some] <;> rfl), by repeat (first | (with_reducible first | exact HB.out | apply below_alloc | apply pw_below_drewN | apply below_drew1 | refine below_set ?_ GE101.out) | exact HB.out)⟩
      · rw [if_neg c6] at H
        exact absurd H (by simp)
    · rw [if_neg c5] at H
      exact absurd H (by simp)
  · rw [if_neg c4] at H
    have c4b0 : decide (0 ≤ t102) = false := decide_eq_false c4
    clear c4
    obtain rfl := Option.some.inj H
    go_enter Tryd.func8, Tryd.ntmps8
    go_wp2_with (first | ((with_reducible refine gate_dst (N := 3) rfl ?_); refine box_event ?hg (N := 3) ?hd (cs := #[.int .u8 a1_0, .int .u8 a1_1, .int .u8 a1_2, .int .u8 a1_3, .string a1_4, .int .i64 a1_5]) (t := 28) ?hr ?_; (case hd => rfl); (case hg => rfl); (case hr => first | (go_simp; done) | (go_simp; rfl)); intro gb101 hg w10 hbox hb; have n0_ := Aside0.mk (below_step (by repeat (first | (with_reducible first | exact HB.out | apply below_alloc | apply pw_below_drewN | apply below_drew1) | exact HB.out)) hb); have n1_ := Aside0.mk (hbox); have n2_ := Aside0.mk ((by rw [hg]; exact (below_size (by repeat (first | (with_reducible first | exact HB.out | apply below_alloc | apply pw_below_drewN | apply below_drew1) | exact HB.out))) : w.heap.size ≤ gb101)); have n3_ := Aside0.mk ((by rw [hg]; exact (below_size (by repeat (first | (with_reducible first | exact HB.out | apply below_alloc | apply pw_below_drewN | apply below_drew1) | exact HB.out))) : w.heap.size ≤ gb101)); clear HB; have HB := n0_; have BK101 := n1_; have GW101 := n2_; have GE101 := n3_; clear n0_ n1_ n2_ n3_; clear hb hbox hg; have hcz11_0 : w10.cell? ⟨gb101, 0, none⟩ = some (.int .u8 a1_0) := (blk_cell BK101.out 0).trans rfl; have hcz11_1 : w10.cell? ⟨gb101, 1, none⟩ = some (.int .u8 a1_1) := (blk_cell BK101.out 1).trans rfl; have hcz11_2 : w10.cell? ⟨gb101, 2, none⟩ = some (.int .u8 a1_2) := (blk_cell BK101.out 2).trans rfl; have hcz11_3 : w10.cell? ⟨gb101, 3, none⟩ = some (.int .u8 a1_3) := (blk_cell BK101.out 3).trans rfl; have hcz11_4 : w10.cell? ⟨gb101, 4, none⟩ = some (.string a1_4) := (blk_cell BK101.out 4).trans rfl; have hcz11_5 : w10.cell? ⟨gb101, 5, none⟩ = some (.int .i64 a1_5) := (blk_cell BK101.out 5).trans rfl; have hfz11_0 := blk_frozen BK101.out 0; have hfz11_1 := blk_frozen BK101.out 1; have hfz11_2 := blk_frozen BK101.out 2; have hfz11_3 := blk_frozen BK101.out 3; have hfz11_4 := blk_frozen BK101.out 4; have hfz11_5 := blk_frozen BK101.out 5) | ((with_reducible refine gate_callee (f := 7) rfl ?_); refine goesL_ (some 8) rfl rfl Tryd.func7 (by kernel_rfl) rfl #[.slice A0 l0.length c0, .agg #[.int .u8 a1_0, .int .u8 a1_1, .int .u8 a1_2, .int .u8 a1_3, .string a1_4, .int .i64 a1_5]] rfl (by (try simp only [List.map_toArray, List.map_cons, List.map_nil]); first | done | rfl | (simp only [List.length_drop, List.length_take]; rfl)) ?_; (with_reducible refine (E.Which.calls _ _ l0 a1_0 a1_1 a1_2 a1_3 a1_4 a1_5 t102 _ ?side1 ?side2 ?side3 A3.out).mono ?_); (case side1 => repeat (first | exact (Kd.C_below HR0.out HB.out) | (with_reducible refine Kd.C_alloc ?_ _) | (with_reducible refine Kd.C_drewN ?_ _) | (with_reducible refine Kd.C_drew ?_))); (case side2 => exact HC0.out); (case side3 => exact StdW.below HS_.out (by repeat (first | (with_reducible first | exact HB.out | apply below_alloc | apply pw_below_drewN | apply below_drew1 | refine below_set ?_ GE101.out) | exact HB.out))); rintro e w12 ⟨rfl, hb⟩; refine ⟨_, rfl, ?_⟩; have n0_ := Aside0.mk (blk_below (g := gb101) (o := .cells #[.int .u8 a1_0, .int .u8 a1_1, .int .u8 a1_2, .int .u8 a1_3, .string a1_4, .int .i64 a1_5] 28 (0, 0)) (by (with_reducible repeat (first | refine blk_drewN ?_ _ | refine blk_drew ?_ | refine blk_alloc ?_ _)); exact BK101.out) hb); have n1_ := Aside0.mk (below_step (by repeat (first | (with_reducible first | exact HB.out | apply below_alloc | apply pw_below_drewN | apply below_drew1 | refine below_set ?_ GE101.out) | exact HB.out)) hb); clear BK101; clear HB; have BK101 := n0_; have HB := n1_; clear n0_ n1_; (try clear hb); (try clear hb2); (try clear hk); (try clear hi)))
    go_ret
    exact ⟨by first | rfl | (simp [errW_none, errW_some] <;> rfl) | (simp [*, errW_none, errW_some] <;> rfl), by repeat (first | (with_reducible first | exact HB.out | apply below_alloc | apply pw_below_drewN | apply below_drew1 | refine below_set ?_ GE101.out) | exact HB.out)⟩
end Go.Proofs.YteondnhokgmakaaDoor.XM


namespace Go.Proofs.YteondnhokgmakaaDoor.XM
open Go.Proofs.YteondnhokgmakaaDoor.XC
open Go.RowKit Go.Proofs.YteondnhokgmakaaDoorW.PrintWords Go.Proofs.YteondnhokgmakaaDoorW.PrintLast Go.Proofs.YteondnhokgmakaaDoorW.PrintMore
attribute [local go_sem] max2_int min2_int max_two min_two max_three min_three max_four min_four
set_option linter.unusedVariables false
set_option linter.unusedSimpArgs false
end Go.Proofs.YteondnhokgmakaaDoor.XM


namespace Go.Proofs.YteondnhokgmakaaDoor.E
open Go.RowKit Go.Proofs.YteondnhokgmakaaDoorW.PrintWords Go.Proofs.YteondnhokgmakaaDoorW.PrintLast Go.Proofs.YteondnhokgmakaaDoor.XC Go.Proofs.YteondnhokgmakaaDoor.XM
set_option linter.unusedVariables false
set_option linter.unusedSimpArgs false
def aexS : ByteArray := ⟨#[97, 46, 101, 120, 97, 109, 112, 108, 101, 46, 99, 111, 109]⟩
def exRules : List S33 := [⟨false, ⟨10, 0, 0, 0⟩, 8, ⟨#[]⟩, 1, 65535⟩, ⟨true, ⟨0, 0, 0, 0⟩, 0, exS, 443, 443⟩]
theorem may1 : policy_May.f exRules 0 0 0 0 aexS 443 = some true := by kernel_rfl
theorem may2 : policy_May.f exRules 0 0 0 0 exS 80 = some false := by kernel_rfl
theorem may3 : policy_May.f exRules 10 0 0 0 ⟨#[]⟩ 443 = some false := by kernel_rfl
def exCells : Array Value := #[.bool false, .int .u8 10, .int .u8 0, .int .u8 0, .int .u8 0, .int .i64 8, .string ⟨#[]⟩, .int .i64 1, .int .i64 65535, .bool true, .int .u8 0, .int .u8 0, .int .u8 0, .int .u8 0, .int .i64 0, .string exS, .int .i64 443, .int .i64 443]
theorem exRules_lie {w : World} {R : Nat} {T : TypeId} (h : Blk w R exCells T) : Kd.C k33 w (some ⟨R, 0, none⟩) exRules.length exRules := by
  refine ⟨rfl, by decide, fun _ => ⟨_, rfl, fun j p hj => ?_⟩⟩
  match j, hj with
  | 0, hj =>
    obtain rfl := Option.some.inj hj
    refine ⟨_, rfl, k33_mk w _, fun i u hu => ?_⟩
    match i, hu with
    | 0, hu => exact h.cell 0 _ hu
    | 1, hu => exact h.cell 1 _ hu
    | 2, hu => exact h.cell 2 _ hu
    | 3, hu => exact h.cell 3 _ hu
    | 4, hu => exact h.cell 4 _ hu
    | 5, hu => exact h.cell 5 _ hu
    | 6, hu => exact h.cell 6 _ hu
    | 7, hu => exact h.cell 7 _ hu
    | 8, hu => exact h.cell 8 _ hu
  | 1, hj =>
    obtain rfl := Option.some.inj hj
    refine ⟨_, rfl, k33_mk w _, fun i u hu => ?_⟩
    match i, hu with
    | 0, hu => exact h.cell 9 _ hu
    | 1, hu => exact h.cell 10 _ hu
    | 2, hu => exact h.cell 11 _ hu
    | 3, hu => exact h.cell 12 _ hu
    | 4, hu => exact h.cell 13 _ hu
    | 5, hu => exact h.cell 14 _ hu
    | 6, hu => exact h.cell 15 _ hu
    | 7, hu => exact h.cell 16 _ hu
    | 8, hu => exact h.cell 17 _ hu
theorem named_any (s : ByteArray) (po : Int) (w : World) : Calls Tryd.prog 13 #[.string s, .int .i64 po] w fun e w' => e = .returned (.agg #[.int .u8 0, .int .u8 0, .int .u8 0, .int .u8 0, .string s, .int .i64 po]) ∧ Below w.heap.size w w' := by
  go_enter Tryd.func13, Tryd.ntmps13
  go_wp2
  refine bodyPost_ret (v := .agg #[.int .u8 0, .int .u8 0, .int .u8 0, .int .u8 0, .string s, .int .i64 po]) (by simp [results, Tryd.results13, go_sem]) rfl ⟨rfl, ?_⟩
  trace_state
  exact below_alloc (Below.refl _ _) _
end Go.Proofs.YteondnhokgmakaaDoor.E


namespace Go.Proofs.YteondnhokgmakaaDoor.E
open Go.RowKit Go.Proofs.YteondnhokgmakaaDoorW.PrintWords Go.Proofs.YteondnhokgmakaaDoorW.PrintLast Go.Proofs.YteondnhokgmakaaDoor.XC Go.Proofs.YteondnhokgmakaaDoor.XM
set_option linter.unusedVariables false
set_option linter.unusedSimpArgs false
set_option maxRecDepth 100000 in
set_option maxHeartbeats 8000000 in
theorem works_any (w : World) (hS : StdW w) : Calls Tryd.prog 6 #[] w fun e w' => e = .returned (.bool true) ∧ Below w.heap.size w w' := by
  have HS := Lib.hid hS
  clear hS
  have X1 := Lib.hid parse1
  have X2 := Lib.hid parse2
  have X3 := Lib.hid parse3
  have M1 := Lib.hid (fun W A0 h hS => policy_May.calls A0 2 exRules 0 0 0 0 aexS 443 true W h (Nat.le_refl _) hS may1)
  have M2 := Lib.hid (fun W A0 h hS => policy_May.calls A0 2 exRules 0 0 0 0 exS 80 false W h (Nat.le_refl _) hS may2)
  have M3 := Lib.hid (fun W A0 h hS => policy_May.calls A0 2 exRules 10 0 0 0 ⟨#[]⟩ 443 false W h (Nat.le_refl _) hS may3)
  unfold ruleT1 rc at X1
  unfold ruleT2 rc exS at X2
  unfold ruleT3 zeroRule rc at X3
  unfold aexS at M1
  unfold exS at M2
  have HL : exRules.length = 2 := rfl
  go_enter Tryd.func6, Tryd.ntmps6
  go_wp2_with (first | (go_at_call_of 11 (Value.string ⟨#[100, 101, 110, 121, 32, 49, 48, 46, 48, 46, 48, 46, 48, 47, 56, 32, 49, 45, 54, 53, 53, 51, 53]⟩); refine (X1.out _ HS.out).mono ?_; rintro e x1 ⟨rfl, hb1⟩; have HB1 := Lib.hid hb1; clear hb1) | (go_at_call_of 11 (Value.string ⟨#[97, 108, 108, 111, 119, 32, 101, 120, 97, 109, 112, 108, 101, 46, 99, 111, 109, 32, 52, 52, 51]⟩); refine (X2.out _ (StdW.below HS.out (below_alloc HB1.out _))).mono ?_; rintro e x2 ⟨rfl, hb2⟩; have HB2 := Lib.hid (below_then (below_alloc HB1.out _) (below_alloc HB1.out _).size hb2); have HR1 := Lib.hid ((Blk.new x1 (rc false 10 0 0 0 8 ⟨#[]⟩ 1 65535) 33).below hb2); clear hb2) | (go_at_call_of 11 (Value.string ⟨#[97, 108, 108, 111, 119, 32, 49, 48, 46, 48, 46, 48, 46, 49, 47, 56, 32, 56, 48]⟩); refine (X3.out _ (StdW.below HS.out (below_alloc HB2.out _))).mono ?_; rintro e x3 ⟨rfl, hb3⟩; have HB3 := Lib.hid (below_then (below_alloc HB2.out _) (below_alloc HB2.out _).size hb3); have HR2 : Hid (Blk x3 x2.heap.size (rc true 0 0 0 0 0 exS 443 443) 33) := Lib.hid ((Blk.new x2 (rc true 0 0 0 0 0 exS 443 443) 33).below hb3); have HR3 := Lib.hid ((HR1.out.old _).below hb3); have l1 := HR3.out.lt; have l2 := HR2.out.lt; obtain ⟨c0, c1, c2, c3, c4, c5, c6, c7, c8⟩ := HR3.out.nine; obtain ⟨d0, d1, d2, d3, d4, d5, d6, d7, d8⟩ := HR2.out.nine; clear hb3) | (go_at_call_of 13 (Value.string ⟨#[97, 46, 101, 120, 97, 109, 112, 108, 101, 46, 99, 111, 109]⟩); refine (named_any _ _ _).mono ?_; rintro e x4 ⟨rfl, hb4⟩; have HB4 := Lib.hid (below_then (below_alloc (below_alloc HB3.out _) _) (below_alloc (below_alloc HB3.out _) _).size hb4); have HC4 : Hid (Blk x4 (x3.heap.size + 1) exCells 33) := Lib.hid (by have hh := ((Blk.new (x3.alloc (.cells #[Value.bool false, Value.int .u8 0, Value.int .u8 0, Value.int .u8 0, Value.int .u8 0, Value.int .i64 0, Value.string ⟨#[]⟩, Value.int .i64 0, Value.int .i64 0] 33)) exCells 33).below hb4); rw [World.size_alloc] at hh; exact hh); clear hb4) | (go_at_call_of 8 (Value.string ⟨#[97, 46, 101, 120, 97, 109, 112, 108, 101, 46, 99, 111, 109]⟩); refine (M1.out x4 (some ⟨x3.heap.size + 1, 0, none⟩) (exRules_lie HC4.out) (StdW.below HS.out HB4.out)).mono ?_; rintro e x5 ⟨rfl, hb5⟩; have HB5 := Lib.hid (below_then HB4.out HB4.out.size hb5); have HC5 : Hid (Blk x5 (x3.heap.size + 1) exCells 33) := Lib.hid (HC4.out.below hb5); clear hb5) | (go_at_call_of 13 (Value.int .i64 80); refine (named_any _ _ _).mono ?_; rintro e x6 ⟨rfl, hb6⟩; have HB6 := Lib.hid (below_then HB5.out HB5.out.size hb6); have HC6 : Hid (Blk x6 (x3.heap.size + 1) exCells 33) := Lib.hid (HC5.out.below hb6); clear hb6) | (go_at_call_of 8 (Value.int .i64 80); refine (M2.out x6 (some ⟨x3.heap.size + 1, 0, none⟩) (exRules_lie HC6.out) (StdW.below HS.out HB6.out)).mono ?_; rintro e x7 ⟨rfl, hb7⟩; have HB7 := Lib.hid (below_then HB6.out HB6.out.size hb7); have HC7 : Hid (Blk x7 (x3.heap.size + 1) exCells 33) := Lib.hid (HC6.out.below hb7); clear hb7) | (go_at_call_of 8 (Value.int .u8 10); refine (M3.out x7 (some ⟨x3.heap.size + 1, 0, none⟩) (exRules_lie HC7.out) (StdW.below HS.out HB7.out)).mono ?_; rintro e x8 ⟨rfl, hb8⟩; have HB8 := Lib.hid (below_then HB7.out HB7.out.size hb8); have HC8 : Hid (Blk x8 (x3.heap.size + 1) exCells 33) := Lib.hid (HC7.out.below hb8); clear hb8))
  go_ret
  exact ⟨rfl, HB8.out⟩
def works.f : Option Bool := some true
theorem works.calls (r : Bool) (w : World) (hS_ : StdW w) (h : works.f = some r) : Calls Tryd.prog 6 #[] w fun e w' => e = .returned (.bool r) ∧ Below w.heap.size w w' := by
  obtain rfl := Option.some.inj h
  exact works_any w hS_
end Go.Proofs.YteondnhokgmakaaDoor.E


namespace Go.Proofs.YteondnhokgmakaaDoor.XB
open Go.Proofs.YteondnhokgmakaaDoor.XC Go.Proofs.YteondnhokgmakaaDoor.XM
open Go.RowKit Go.Proofs.YteondnhokgmakaaDoorW.PrintWords Go.Proofs.YteondnhokgmakaaDoorW.PrintLast Go.Proofs.YteondnhokgmakaaDoorW.PrintMore
attribute [local go_sem] max2_int min2_int max_two min_two max_three min_three max_four min_four
set_option linter.unusedVariables false
set_option linter.unusedSimpArgs false
end Go.Proofs.YteondnhokgmakaaDoor.XB


namespace Go.Proofs.YteondnhokgmakaaDoor.XB
open Go.Proofs.YteondnhokgmakaaDoor.XC Go.Proofs.YteondnhokgmakaaDoor.XM
open Go.RowKit Go.Proofs.YteondnhokgmakaaDoorW.PrintWords Go.Proofs.YteondnhokgmakaaDoorW.PrintLast Go.Proofs.YteondnhokgmakaaDoorW.PrintMore
attribute [local go_sem] max2_int min2_int max_two min_two max_three min_three max_four min_four
set_option linter.unusedVariables false
set_option linter.unusedSimpArgs false
theorem eqA33 (d : Nat) (w : World) (x0 y0 : Bool) (x1 y1 : Int) (x2 y2 : Int) (x3 y3 : Int) (x4 y4 : Int) (x5 y5 : Int) (x6 y6 : ByteArray) (x7 y7 : Int) (x8 y8 : Int) :
    (Op.equalIn (d + 3) 33 (.agg #[.bool x0, .int .u8 x1, .int .u8 x2, .int .u8 x3, .int .u8 x4, .int .i64 x5, .string x6, .int .i64 x7, .int .i64 x8]) (.agg #[.bool y0, .int .u8 y1, .int .u8 y2, .int .u8 y3, .int .u8 y4, .int .i64 y5, .string y6, .int .i64 y7, .int .i64 y8])).run Tryd.prog w = .ok (x0 == y0 && ((x1 == y1 && (x2 == y2 && (x3 == y3 && (x4 == y4)))) && (x5 == y5 && (x6.toList == y6.toList && (x7 == y7 && (x8 == y8)))))) w := by
  refine eqA_of Tryd.underlying33 (by kernel_rfl) ?_
  refine eqf_cons (by rfl) (by go_simp; rfl) (by go_simp; rfl) (by go_simp) ?_
  refine eqf_cons (by rfl) (by go_simp) (by go_simp) (eqA24 (d + 0) w _ _ _ _ _ _ _ _) ?_
  refine eqf_cons (by rfl) (by go_simp; rfl) (by go_simp; rfl) (by go_simp) ?_
  refine eqf_cons (by rfl) (by go_simp; rfl) (by go_simp; rfl) (by go_simp) ?_
  refine eqf_cons (by rfl) (by go_simp; rfl) (by go_simp; rfl) (by go_simp) ?_
  exact eqf_last (by rfl) (by go_simp; rfl) (by go_simp; rfl) (by go_simp)
end Go.Proofs.YteondnhokgmakaaDoor.XB


namespace Go.Proofs.YteondnhokgmakaaDoor.XB
open Go.Proofs.YteondnhokgmakaaDoor.XC Go.Proofs.YteondnhokgmakaaDoor.XM
open Go.RowKit Go.Proofs.YteondnhokgmakaaDoorW.PrintWords Go.Proofs.YteondnhokgmakaaDoorW.PrintLast Go.Proofs.YteondnhokgmakaaDoorW.PrintMore
attribute [local go_sem] max2_int min2_int max_two min_two max_three min_three max_four min_four
set_option linter.unusedVariables false
set_option linter.unusedSimpArgs false
mutual
def policy_Print.j0 : Nat → ByteArray → ByteArray → ByteArray → Bool → Int → Int → Int → Int → Int → ByteArray → Int → Int → Option (ByteArray × Int)
  | 0, _, _, _, _, _, _, _, _, _, _, _, _ => none
  | k + 1, x4, x5, x6, x102000, x102001, x102002, x102003, x102004, x102005, x102006, x102007, x102008 => if x5.toList = ([] : List UInt8) then ((E.hPrint.f x102001 x102002 x102003 x102004 (⟨#[]⟩ : ByteArray)).bind fun t104 => (if t104.size + 1 ≤ 9223372036854775807 then ((E.Itoa.f x102005).bind fun t105 => (if (t104 ++ (⟨#[47]⟩ : ByteArray)).size + t105.size ≤ 9223372036854775807 then (policy_Print.j1 k x4 ((t104 ++ (⟨#[47]⟩ : ByteArray)) ++ t105) x6 x102000 x102001 x102002 x102003 x102004 x102005 x102006 x102007 x102008) else (none))) else (none))) else (policy_Print.j1 k x4 x5 x6 x102000 x102001 x102002 x102003 x102004 x102005 x102006 x102007 x102008)
def policy_Print.j1 : Nat → ByteArray → ByteArray → ByteArray → Bool → Int → Int → Int → Int → Int → ByteArray → Int → Int → Option (ByteArray × Int)
  | 0, _, _, _, _, _, _, _, _, _, _, _, _ => none
  | k + 1, x4, x5, x6, x102000, x102001, x102002, x102003, x102004, x102005, x102006, x102007, x102008 => if x102008 > x102007 then ((E.Itoa.f x102008).bind fun t106 => (if 1 + t106.size ≤ 9223372036854775807 then (if x6.size + ((⟨#[45]⟩ : ByteArray) ++ t106).size ≤ 9223372036854775807 then ((E.Join.f (([x4, x5, x6 ++ ((⟨#[45]⟩ : ByteArray) ++ t106)] : List ByteArray)) (⟨#[32]⟩ : ByteArray)).bind fun t110 => (some (t110, 0))) else (none)) else (none))) else ((E.Join.f (([x4, x5, x6] : List ByteArray)) (⟨#[32]⟩ : ByteArray)).bind fun t114 => (some (t114, 0)))
end
def policy_Print.f (k : Nat) (a0_0 : Bool) (a0_1 : Int) (a0_2 : Int) (a0_3 : Int) (a0_4 : Int) (a0_5 : Int) (a0_6 : ByteArray) (a0_7 : Int) (a0_8 : Int) : Option (ByteArray × Int) := (XC.policy_right.f k a0_0 a0_1 a0_2 a0_3 a0_4 a0_5 a0_6 a0_7 a0_8).bind fun t102 => (if t102 = true then ((E.Itoa.f a0_7).bind fun t103 => (if a0_0 = true then (policy_Print.j0 k (⟨#[97, 108, 108, 111, 119]⟩ : ByteArray) a0_6 t103 a0_0 a0_1 a0_2 a0_3 a0_4 a0_5 a0_6 a0_7 a0_8) else (policy_Print.j0 k (⟨#[100, 101, 110, 121]⟩ : ByteArray) a0_6 t103 a0_0 a0_1 a0_2 a0_3 a0_4 a0_5 a0_6 a0_7 a0_8))) else (some ((⟨#[]⟩ : ByteArray), 120)))
theorem policy_Print.mono_l : ∀ k, (∀ y0 y1 y2 y3 y4 y5 y6 y7 y8 y9 y10 y11, LeO (policy_Print.j0 k y0 y1 y2 y3 y4 y5 y6 y7 y8 y9 y10 y11) (policy_Print.j0 (k + 1) y0 y1 y2 y3 y4 y5 y6 y7 y8 y9 y10 y11)) ∧ (∀ y0 y1 y2 y3 y4 y5 y6 y7 y8 y9 y10 y11, LeO (policy_Print.j1 k y0 y1 y2 y3 y4 y5 y6 y7 y8 y9 y10 y11) (policy_Print.j1 (k + 1) y0 y1 y2 y3 y4 y5 y6 y7 y8 y9 y10 y11))
  | 0 => ⟨fun _ _ _ _ _ _ _ _ _ _ _ _ r h => by simp [policy_Print.j0] at h, fun _ _ _ _ _ _ _ _ _ _ _ _ r h => by simp [policy_Print.j1] at h⟩
  | k + 1 => by
    obtain ⟨ih0, ih1⟩ := policy_Print.mono_l k
    refine ⟨?_, ?_⟩
    · intro y0 y1 y2 y3 y4 y5 y6 y7 y8 y9 y10 y11
      unfold policy_Print.j0
      repeat' first
      | (with_reducible exact ih0 _ _ _ _ _ _ _ _ _ _ _ _)
      | (with_reducible exact ih1 _ _ _ _ _ _ _ _ _ _ _ _)
      | (with_reducible exact XC.policy_right.mono _ _ _ _ _ _ _ _ _ _)
      | (with_reducible exact LeO.refl _)
      | (with_reducible exact LeO.none _)
      | (with_reducible refine LeO.ite ?_ ?_)
      | (with_reducible refine LeO.bind ?_ (fun _ => ?_))
      | exact ih0 _ _ _ _ _ _ _ _ _ _ _ _
      | exact ih1 _ _ _ _ _ _ _ _ _ _ _ _
      | exact XC.policy_right.mono _ _ _ _ _ _ _ _ _ _
      | exact LeO.none _
      | refine LeO.ite ?_ ?_
      | refine LeO.bind ?_ (fun _ => ?_)
    · intro y0 y1 y2 y3 y4 y5 y6 y7 y8 y9 y10 y11
      unfold policy_Print.j1
      repeat' first
      | (with_reducible exact ih0 _ _ _ _ _ _ _ _ _ _ _ _)
      | (with_reducible exact ih1 _ _ _ _ _ _ _ _ _ _ _ _)
      | (with_reducible exact XC.policy_right.mono _ _ _ _ _ _ _ _ _ _)
      | (with_reducible exact LeO.refl _)
      | (with_reducible exact LeO.none _)
      | (with_reducible refine LeO.ite ?_ ?_)
      | (with_reducible refine LeO.bind ?_ (fun _ => ?_))
      | exact ih0 _ _ _ _ _ _ _ _ _ _ _ _
      | exact ih1 _ _ _ _ _ _ _ _ _ _ _ _
      | exact XC.policy_right.mono _ _ _ _ _ _ _ _ _ _
      | exact LeO.none _
      | refine LeO.ite ?_ ?_
      | refine LeO.bind ?_ (fun _ => ?_)
theorem policy_Print.mono : ∀ a0 a1 a2 a3 a4 a5 a6 a7 a8 k, LeO (policy_Print.f k a0 a1 a2 a3 a4 a5 a6 a7 a8) (policy_Print.f (k + 1) a0 a1 a2 a3 a4 a5 a6 a7 a8) := by
  intro a0 a1 a2 a3 a4 a5 a6 a7 a8 k
  obtain ⟨ih0, ih1⟩ := policy_Print.mono_l k
  unfold policy_Print.f
  repeat' first
      | (with_reducible exact ih0 _ _ _ _ _ _ _ _ _ _ _ _)
      | (with_reducible exact ih1 _ _ _ _ _ _ _ _ _ _ _ _)
      | (with_reducible exact XC.policy_right.mono _ _ _ _ _ _ _ _ _ _)
      | (with_reducible exact LeO.refl _)
      | (with_reducible exact LeO.none _)
      | (with_reducible refine LeO.ite ?_ ?_)
      | (with_reducible refine LeO.bind ?_ (fun _ => ?_))
      | exact ih0 _ _ _ _ _ _ _ _ _ _ _ _
      | exact ih1 _ _ _ _ _ _ _ _ _ _ _ _
      | exact XC.policy_right.mono _ _ _ _ _ _ _ _ _ _
      | exact LeO.none _
      | refine LeO.ite ?_ ?_
      | refine LeO.bind ?_ (fun _ => ?_)
def policy_Print.T3 : Bool × List (List Nat × List Nat) := (true, [([], []), ([0], [0]), ([], []), ([2], [2]), ([3], [3]), ([4], []), ([1, 5, 0, 1, 5], [1]), ([4, 6, 0, 1, 2, 3, 4, 5, 6], [4])])
def policy_Print.B3 : List Nat := [0, 1, 0, 4, 12, 28, 63, 127]
theorem policy_Print.tab3 : rtab .any (opsOf Tryd.f10 3) = policy_Print.T3 := by kernel_rfl
theorem policy_Print.bits3 : waitsOk policy_Print.T3.2 policy_Print.B3 = true := by kernel_rfl
def policy_Print.T7 : Bool × List (List Nat × List Nat) := (true, [([], []), ([0], [0]), ([1], [1]), ([2], [2]), ([3], [3]), ([], []), ([5], [5]), ([6, 3], [6]), ([4, 7], [4, 7]), ([8, 7, 0, 1, 2, 3, 4, 5, 6, 7, 8], [8])])
def policy_Print.B7 : List Nat := [0, 1, 3, 7, 15, 0, 32, 111, 255, 511]
theorem policy_Print.tab7 : rtab .any (opsOf Tryd.f10 7) = policy_Print.T7 := by kernel_rfl
theorem policy_Print.bits7 : waitsOk policy_Print.T7.2 policy_Print.B7 = true := by kernel_rfl
set_option maxHeartbeats 8000000 in
set_option maxRecDepth 100000 in
theorem policy_Print.calls (k : Nat) (a0_0 : Bool) (a0_1 : Int) (a0_2 : Int) (a0_3 : Int) (a0_4 : Int) (a0_5 : Int) (a0_6 : ByteArray) (a0_7 : Int) (a0_8 : Int) (r1 : ByteArray) (r2 : Int) (w : World) (hS_ : StdW w) (h : policy_Print.f k a0_0 a0_1 a0_2 a0_3 a0_4 a0_5 a0_6 a0_7 a0_8 = some (r1, r2)) :
    Calls Tryd.prog 10 #[.agg #[.bool a0_0, .int .u8 a0_1, .int .u8 a0_2, .int .u8 a0_3, .int .u8 a0_4, .int .i64 a0_5, .string a0_6, .int .i64 a0_7, .int .i64 a0_8]] w fun e w' => e = .returned (.tuple #[.string r1, .int .i64 r2]) ∧ Below w.heap.size w w' := by
  have hu33 := Tryd.underlying33
  have hu24 := Tryd.underlying24
  have hu26 := Tryd.underlying26
  have HS_ := Aside0.mk hS_
  clear hS_
  have HB := Aside0.mk (Below.refl w.heap.size w)
  have H : ((XC.policy_right.f k a0_0 a0_1 a0_2 a0_3 a0_4 a0_5 a0_6 a0_7 a0_8).bind fun t102 => (if t102 = true then ((E.Itoa.f a0_7).bind fun t103 => (if a0_0 = true then (policy_Print.j0 k (⟨#[97, 108, 108, 111, 119]⟩ : ByteArray) a0_6 t103 a0_0 a0_1 a0_2 a0_3 a0_4 a0_5 a0_6 a0_7 a0_8) else (policy_Print.j0 k (⟨#[100, 101, 110, 121]⟩ : ByteArray) a0_6 t103 a0_0 a0_1 a0_2 a0_3 a0_4 a0_5 a0_6 a0_7 a0_8))) else (some ((⟨#[]⟩ : ByteArray), 120)))) = some (r1, r2) := h
  clear h
  replace H := Option.bind_eq_some_iff.mp H
  obtain ⟨t102, A20, H⟩ := H
  replace H : (if t102 = true then ((E.Itoa.f a0_7).bind fun t103 => (if a0_0 = true then (policy_Print.j0 k (⟨#[97, 108, 108, 111, 119]⟩ : ByteArray) a0_6 t103 a0_0 a0_1 a0_2 a0_3 a0_4 a0_5 a0_6 a0_7 a0_8) else (policy_Print.j0 k (⟨#[100, 101, 110, 121]⟩ : ByteArray) a0_6 t103 a0_0 a0_1 a0_2 a0_3 a0_4 a0_5 a0_6 a0_7 a0_8))) else (some ((⟨#[]⟩ : ByteArray), 120))) = some (r1, r2) := H
  have A2 := Aside0.mk A20
  clear A20
  by_cases c3 : t102 = true
  · subst c3
    have H1 : ((E.Itoa.f a0_7).bind fun t103 => (if a0_0 = true then (policy_Print.j0 k (⟨#[97, 108, 108, 111, 119]⟩ : ByteArray) a0_6 t103 a0_0 a0_1 a0_2 a0_3 a0_4 a0_5 a0_6 a0_7 a0_8) else (policy_Print.j0 k (⟨#[100, 101, 110, 121]⟩ : ByteArray) a0_6 t103 a0_0 a0_1 a0_2 a0_3 a0_4 a0_5 a0_6 a0_7 a0_8))) = some (r1, r2) := by rw [if_pos rfl] at H; exact H
    clear H
    have H := H1
    clear H1
    replace H := Option.bind_eq_some_iff.mp H
    obtain ⟨t103, A40, H⟩ := H
    replace H : (if a0_0 = true then (policy_Print.j0 k (⟨#[97, 108, 108, 111, 119]⟩ : ByteArray) a0_6 t103 a0_0 a0_1 a0_2 a0_3 a0_4 a0_5 a0_6 a0_7 a0_8) else (policy_Print.j0 k (⟨#[100, 101, 110, 121]⟩ : ByteArray) a0_6 t103 a0_0 a0_1 a0_2 a0_3 a0_4 a0_5 a0_6 a0_7 a0_8)) = some (r1, r2) := H
    have A4 := Aside0.mk A40
    clear A40
    have HC5 := Aside0.mk H
    clear H
    go_enter Tryd.func10, Tryd.ntmps10
    try go_wp2_with (first | ((with_reducible refine gate_dst (N := 1) rfl ?_); refine box_event ?hg (N := 1) ?hd (cs := #[.bool a0_0, .int .u8 a0_1, .int .u8 a0_2, .int .u8 a0_3, .int .u8 a0_4, .int .i64 a0_5, .string a0_6, .int .i64 a0_7, .int .i64 a0_8]) (t := 33) ?hr ?_; (case hd => rfl); (case hg => rfl); (case hr => first | (go_simp; done) | (go_simp; rfl)); intro gb101 hg w6 hbox hb; have n0_ := Aside0.mk (below_step (by repeat (first | (with_reducible first | exact HB.out | apply below_alloc | apply pw_below_drewN | apply below_drew1) | exact HB.out)) hb); have n1_ := Aside0.mk (hbox); have n2_ := Aside0.mk ((by rw [hg]; exact (below_size (by repeat (first | (with_reducible first | exact HB.out | apply below_alloc | apply pw_below_drewN | apply below_drew1) | exact HB.out))) : w.heap.size ≤ gb101)); have n3_ := Aside0.mk ((by rw [hg]; exact (below_size (by repeat (first | (with_reducible first | exact HB.out | apply below_alloc | apply pw_below_drewN | apply below_drew1) | exact HB.out))) : w.heap.size ≤ gb101)); clear HB; have HB := n0_; have BK101 := n1_; have GW101 := n2_; have GE101 := n3_; clear n0_ n1_ n2_ n3_; clear hb hbox hg; have hcz7_0 : w6.cell? ⟨gb101, 0, none⟩ = some (.bool a0_0) := (blk_cell BK101.out 0).trans rfl; have hcz7_1 : w6.cell? ⟨gb101, 1, none⟩ = some (.int .u8 a0_1) := (blk_cell BK101.out 1).trans rfl; have hcz7_2 : w6.cell? ⟨gb101, 2, none⟩ = some (.int .u8 a0_2) := (blk_cell BK101.out 2).trans rfl; have hcz7_3 : w6.cell? ⟨gb101, 3, none⟩ = some (.int .u8 a0_3) := (blk_cell BK101.out 3).trans rfl; have hcz7_4 : w6.cell? ⟨gb101, 4, none⟩ = some (.int .u8 a0_4) := (blk_cell BK101.out 4).trans rfl; have hcz7_5 : w6.cell? ⟨gb101, 5, none⟩ = some (.int .i64 a0_5) := (blk_cell BK101.out 5).trans rfl; have hcz7_6 : w6.cell? ⟨gb101, 6, none⟩ = some (.string a0_6) := (blk_cell BK101.out 6).trans rfl; have hcz7_7 : w6.cell? ⟨gb101, 7, none⟩ = some (.int .i64 a0_7) := (blk_cell BK101.out 7).trans rfl; have hcz7_8 : w6.cell? ⟨gb101, 8, none⟩ = some (.int .i64 a0_8) := (blk_cell BK101.out 8).trans rfl; have hfz7_0 := blk_frozen BK101.out 0; have hfz7_1 := blk_frozen BK101.out 1; have hfz7_2 := blk_frozen BK101.out 2; have hfz7_3 := blk_frozen BK101.out 3; have hfz7_4 := blk_frozen BK101.out 4; have hfz7_5 := blk_frozen BK101.out 5; have hfz7_6 := blk_frozen BK101.out 6; have hfz7_7 := blk_frozen BK101.out 7; have hfz7_8 := blk_frozen BK101.out 8) | ((with_reducible refine gate_callee (f := 18) rfl ?_); refine goesL_ (some 8) rfl rfl Tryd.func18 (by kernel_rfl) rfl #[.agg #[.bool a0_0, .int .u8 a0_1, .int .u8 a0_2, .int .u8 a0_3, .int .u8 a0_4, .int .i64 a0_5, .string a0_6, .int .i64 a0_7, .int .i64 a0_8]] rfl (by (try simp only [List.map_toArray, List.map_cons, List.map_nil]); first | done | rfl | (simp only [List.length_drop, List.length_take]; rfl)) ?_; (with_reducible refine (XC.policy_right.calls k a0_0 a0_1 a0_2 a0_3 a0_4 a0_5 a0_6 a0_7 a0_8 true _ ?side1 A2.out).mono ?_); (case side1 => exact StdW.below HS_.out (by repeat (first | (with_reducible first | exact HB.out | apply below_alloc | apply pw_below_drewN | apply below_drew1 | refine below_set ?_ GE101.out) | exact HB.out))); rintro e w8 ⟨rfl, hb⟩; refine ⟨_, rfl, ?_⟩; have n0_ := Aside0.mk (blk_below (g := gb101) (o := .cells #[.bool a0_0, .int .u8 a0_1, .int .u8 a0_2, .int .u8 a0_3, .int .u8 a0_4, .int .i64 a0_5, .string a0_6, .int .i64 a0_7, .int .i64 a0_8] 33 (0, 0)) (by (with_reducible repeat (first | refine blk_drewN ?_ _ | refine blk_drew ?_ | refine blk_alloc ?_ _)); exact BK101.out) hb); have n1_ := Aside0.mk (below_step (by repeat (first | (with_reducible first | exact HB.out | apply below_alloc | apply pw_below_drewN | apply below_drew1 | refine below_set ?_ GE101.out) | exact HB.out)) hb); clear BK101; clear HB; have BK101 := n0_; have HB := n1_; clear n0_ n1_; (try clear hb); (try clear hb2); (try clear hk); (try clear hi)))
    have n0_ := Aside0.mk (blk_drew BK101.out)
    have n1_ := Aside0.mk (below_drew1 HB.out)
    clear BK101
    clear HB
    have BK101 := n0_
    have HB := n1_
    clear n0_ n1_
    refine start_ (n := 8) (S := fun w' => w'.cell? ⟨gb101, 0, none⟩ = some (.bool a0_0) ∧ w'.cell? ⟨gb101, 1, none⟩ = some (.int .u8 a0_1) ∧ w'.cell? ⟨gb101, 2, none⟩ = some (.int .u8 a0_2) ∧ w'.cell? ⟨gb101, 3, none⟩ = some (.int .u8 a0_3) ∧ w'.cell? ⟨gb101, 4, none⟩ = some (.int .u8 a0_4) ∧ w'.cell? ⟨gb101, 5, none⟩ = some (.int .i64 a0_5) ∧ w'.cell? ⟨gb101, 6, none⟩ = some (.string a0_6) ∧ w'.cell? ⟨gb101, 7, none⟩ = some (.int .i64 a0_7) ∧ w'.cell? ⟨gb101, 8, none⟩ = some (.int .i64 a0_8)) (ds := []) #[false, false, false, false, false, false, false, false] (by kernel_rfl) rfl rfl ⟨(blk_cell BK101.out 0).trans rfl, (blk_cell BK101.out 1).trans rfl, (blk_cell BK101.out 2).trans rfl, (blk_cell BK101.out 3).trans rfl, (blk_cell BK101.out 4).trans rfl, (blk_cell BK101.out 5).trans rfl, (blk_cell BK101.out 6).trans rfl, (blk_cell BK101.out 7).trans rfl, (blk_cell BK101.out 8).trans rfl⟩ (fun hHeld => ?_); refine with_tabW policy_Print.tab3 policy_Print.bits3 (fun HT_ HW_ => ?_)
    generalize w8.drew = w9 at BK101 HB hHeld ⊢
    refine pure_ (i := 0) (N := some 10) (v := ?_) (a' := ?_) #[true, false, false, false, false, false, false, false] rfl rfl (any_of HT_.out (by kernel_rfl)) (fun _ _ _ h => h) (Or.inl ⟨by rfl, ?_⟩) ?_ ?_
    rotate_left
    · intro w'
      go_simp
      with_reducible rfl
    rotate_left
    · simp only [Act.put, List.setIfInBounds_toArray, List.set_cons_zero, List.set_cons_succ, i64_w, i32_w]
      rfl
    refine pure_ (i := 2) (N := some 12) (v := ?_) (a' := ?_) #[true, false, true, false, false, false, false, false] rfl rfl (any_of HT_.out (by kernel_rfl)) (fun _ _ _ h => h) (Or.inl ⟨by rfl, ?_⟩) ?_ ?_
    rotate_left
    · intro w'
      go_simp
      with_reducible rfl
    rotate_left
    · simp only [Act.put, List.setIfInBounds_toArray, List.set_cons_zero, List.set_cons_succ, i64_w, i32_w]
      rfl
    refine take_ (i := 1) (N := some 11) (v := ?_) (a' := ?_) #[true, true, true, false, false, false, false, false] rfl rfl (take_ofW HT_.out HW_.out (by kernel_rfl)) (fun _ _ _ h => h) (Or.inl ⟨by rfl, ?_⟩) hHeld ?_ ?_
    rotate_left
    · rintro w' ⟨s0, s1, s2, s3, s4, s5, s6, s7, s8⟩
      go_simp
      with_reducible rfl
    rotate_left
    · simp only [Act.put, List.setIfInBounds_toArray, List.set_cons_zero, List.set_cons_succ, i64_w, i32_w]
      rfl
    refine take_ (i := 3) (N := some 13) (v := ?_) (a' := ?_) #[true, true, true, true, false, false, false, false] rfl rfl (take_ofW HT_.out HW_.out (by kernel_rfl)) (fun _ _ _ h => h) (Or.inl ⟨by rfl, ?_⟩) hHeld ?_ ?_
    rotate_left
    · rintro w' ⟨s0, s1, s2, s3, s4, s5, s6, s7, s8⟩
      go_simp
      with_reducible rfl
    rotate_left
    · simp only [Act.put, List.setIfInBounds_toArray, List.set_cons_zero, List.set_cons_succ, i64_w, i32_w]
      rfl
    refine one_ (i := 4) (N := some 14) #[true, true, true, true, true, false, false, false] rfl rfl (one_of HT_.out (by kernel_rfl)) (by decide) (fun K hK => ?_)
    refine goes_ Tryd.func19 (by kernel_rfl) rfl #[.int .i64 a0_7] (by rfl) rfl rfl (by (try simp only [List.map_toArray, List.map_cons, List.map_nil]); first | done | rfl | (simp only [List.length_drop, List.length_take]; rfl)) ?_
    with_reducible refine (E.Itoa.calls a0_7 t103 _ ?side1 A4.out).mono ?_
    (case side1 => exact StdW.below HS_.out (by repeat (first | (with_reducible first | exact HB.out | apply below_alloc | apply pw_below_drewN | apply below_drew1 | refine below_set ?_ GE101.out) | exact HB.out)))
    rintro e w10 ⟨rfl, hb⟩
    refine ⟨_, rfl, ?_⟩
    have n0_ := Aside0.mk (blk_below (g := gb101) (o := .cells #[.bool a0_0, .int .u8 a0_1, .int .u8 a0_2, .int .u8 a0_3, .int .u8 a0_4, .int .i64 a0_5, .string a0_6, .int .i64 a0_7, .int .i64 a0_8] 33 (0, 0)) (by (with_reducible repeat (first | refine blk_drewN ?_ _ | refine blk_drew ?_ | refine blk_alloc ?_ _)); exact BK101.out) hb)
    have n1_ := Aside0.mk (below_step (by repeat (first | (with_reducible first | exact HB.out | apply below_alloc | apply pw_below_drewN | apply below_drew1 | refine below_set ?_ GE101.out) | exact HB.out)) hb)
    clear BK101
    clear HB
    have BK101 := n0_
    have HB := n1_
    clear n0_ n1_
    (try clear hb)
    (try clear hb2)
    (try clear hk)
    (try clear hi)
    refine hK.out _ _ ⟨(blk_cell BK101.out 0).trans rfl, (blk_cell BK101.out 1).trans rfl, (blk_cell BK101.out 2).trans rfl, (blk_cell BK101.out 3).trans rfl, (blk_cell BK101.out 4).trans rfl, (blk_cell BK101.out 5).trans rfl, (blk_cell BK101.out 6).trans rfl, (blk_cell BK101.out 7).trans rfl, (blk_cell BK101.out 8).trans rfl⟩ (fun hHeld => ?_)
    clear hK K
    refine norm_ (a' := ?_) ?_ ?_
    rotate_left
    · show Act.put _ (some 14) _ = _
      simp only [Act.put, List.setIfInBounds_toArray, List.set_cons_zero, List.set_cons_succ, i64_w, i32_w]
      rfl
    refine pure_ (i := 5) (N := some 4) (v := ?_) (a' := ?_) #[true, true, true, true, true, true, false, false] rfl rfl (any_of HT_.out (by kernel_rfl)) (fun _ _ _ h => h) (Or.inl ⟨by rfl, ?_⟩) ?_ ?_
    rotate_left
    · intro w'
      go_simp
      with_reducible rfl
    rotate_left
    · simp only [Act.put, List.setIfInBounds_toArray, List.set_cons_zero, List.set_cons_succ, i64_w, i32_w]
      rfl
    refine pure_ (i := 6) (N := some 5) (v := ?_) (a' := ?_) #[true, true, true, true, true, true, true, false] rfl rfl (any_of HT_.out (by kernel_rfl)) (fun _ _ _ h => h) (Or.inl ⟨by rfl, ?_⟩) ?_ ?_
    rotate_left
    · intro w'
      go_simp
      with_reducible rfl
    rotate_left
    · simp only [Act.put, List.setIfInBounds_toArray, List.set_cons_zero, List.set_cons_succ, i64_w, i32_w]
      rfl
    refine pure_ (i := 7) (N := some 6) (v := ?_) (a' := ?_) #[true, true, true, true, true, true, true, true] rfl rfl (any_of HT_.out (by kernel_rfl)) (fun _ _ _ h => h) (Or.inl ⟨by rfl, ?_⟩) ?_ ?_
    rotate_left
    · intro w'
      go_simp
      with_reducible rfl
    rotate_left
    · simp only [Act.put, List.setIfInBounds_toArray, List.set_cons_zero, List.set_cons_succ, i64_w, i32_w]
      rfl
    refine done_ (done_of HT_.out (by kernel_rfl)) ?_
    have hcz11_0 : w10.cell? ⟨gb101, 0, none⟩ = some (.bool a0_0) := (blk_cell BK101.out 0).trans rfl
    have hcz11_1 : w10.cell? ⟨gb101, 1, none⟩ = some (.int .u8 a0_1) := (blk_cell BK101.out 1).trans rfl
    have hcz11_2 : w10.cell? ⟨gb101, 2, none⟩ = some (.int .u8 a0_2) := (blk_cell BK101.out 2).trans rfl
    have hcz11_3 : w10.cell? ⟨gb101, 3, none⟩ = some (.int .u8 a0_3) := (blk_cell BK101.out 3).trans rfl
    have hcz11_4 : w10.cell? ⟨gb101, 4, none⟩ = some (.int .u8 a0_4) := (blk_cell BK101.out 4).trans rfl
    have hcz11_5 : w10.cell? ⟨gb101, 5, none⟩ = some (.int .i64 a0_5) := (blk_cell BK101.out 5).trans rfl
    have hcz11_6 : w10.cell? ⟨gb101, 6, none⟩ = some (.string a0_6) := (blk_cell BK101.out 6).trans rfl
    have hcz11_7 : w10.cell? ⟨gb101, 7, none⟩ = some (.int .i64 a0_7) := (blk_cell BK101.out 7).trans rfl
    have hcz11_8 : w10.cell? ⟨gb101, 8, none⟩ = some (.int .i64 a0_8) := (blk_cell BK101.out 8).trans rfl
    have hfz11_0 := blk_frozen BK101.out 0
    have hfz11_1 := blk_frozen BK101.out 1
    have hfz11_2 := blk_frozen BK101.out 2
    have hfz11_3 := blk_frozen BK101.out 3
    have hfz11_4 := blk_frozen BK101.out 4
    have hfz11_5 := blk_frozen BK101.out 5
    have hfz11_6 := blk_frozen BK101.out 6
    have hfz11_7 := blk_frozen BK101.out 7
    have hfz11_8 := blk_frozen BK101.out 8
    go_upto_if 16 with (fail)
    go_cut [4] (fun v4 wc => ∃ (kq : Nat) (x4_4 : ByteArray), v4 = .string x4_4 ∧ Aside0 (policy_Print.j0 kq x4_4 a0_6 t103 a0_0 a0_1 a0_2 a0_3 a0_4 a0_5 a0_6 a0_7 a0_8 = some (r1, r2)) ∧ Aside0 (kq ≤ k) ∧ Aside0 (wc.heap[gb101]? = some (.cells #[.bool a0_0, .int .u8 a0_1, .int .u8 a0_2, .int .u8 a0_3, .int .u8 a0_4, .int .i64 a0_5, .string a0_6, .int .i64 a0_7, .int .i64 a0_8] 33 (0, 0))) ∧ Aside0 (Below w.heap.size w wc))
    case first =>
      have H := HC5.out
      clear HC5
      by_cases c12 : a0_0 = true
      · subst c12
        have H1 : (policy_Print.j0 k (⟨#[97, 108, 108, 111, 119]⟩ : ByteArray) a0_6 t103 true a0_1 a0_2 a0_3 a0_4 a0_5 a0_6 a0_7 a0_8) = some (r1, r2) := by rw [if_pos rfl] at H; exact H
        clear H
        have H := H1
        clear H1
        have H' := Aside0.mk H
        clear H
        go_wp2
        go_meet
        case rel => exact ⟨_, ((⟨#[97, 108, 108, 111, 119]⟩ : ByteArray)), (by first | rfl | (simp; done) | (simp [*]; done)), H', ⟨by first | omega | exact Nat.le_refl _⟩, ⟨by (with_reducible repeat (first | refine blk_drewN ?_ _ | refine blk_drew ?_ | refine blk_alloc ?_ _)); exact BK101.out⟩, ⟨by repeat (first | (with_reducible first | exact HB.out | apply below_alloc | apply pw_below_drewN | apply below_drew1 | refine below_set ?_ GE101.out) | exact HB.out)⟩⟩
      · replace c12 := Bool.eq_false_iff.mpr c12
        subst c12
        have H1 : (policy_Print.j0 k (⟨#[100, 101, 110, 121]⟩ : ByteArray) a0_6 t103 false a0_1 a0_2 a0_3 a0_4 a0_5 a0_6 a0_7 a0_8) = some (r1, r2) := by rw [if_neg (show ¬ (false = true) by decide)] at H; exact H
        clear H
        have H := H1
        clear H1
        have H' := Aside0.mk H
        clear H
        go_wp2
        go_meet
        case rel => exact ⟨_, ((⟨#[100, 101, 110, 121]⟩ : ByteArray)), (by first | rfl | (simp; done) | (simp [*]; done)), H', ⟨by first | omega | exact Nat.le_refl _⟩, ⟨by (with_reducible repeat (first | refine blk_drewN ?_ _ | refine blk_drew ?_ | refine blk_alloc ?_ _)); exact BK101.out⟩, ⟨by repeat (first | (with_reducible first | exact HB.out | apply below_alloc | apply pw_below_drewN | apply below_drew1 | refine below_set ?_ GE101.out) | exact HB.out)⟩⟩
    case rest =>
      clear HC5
      try clear c1
      try clear p2
      try clear c3
      try clear c10
      try clear c12
      try clear hcz11_0
      try clear hcz11_1
      try clear hcz11_2
      try clear hcz11_3
      try clear hcz11_4
      try clear hcz11_5
      try clear hcz11_6
      try clear hcz11_7
      try clear hcz11_8
      try clear hcz7_0
      try clear hcz7_1
      try clear hcz7_2
      try clear hcz7_3
      try clear hcz7_4
      try clear hcz7_5
      try clear hcz7_6
      try clear hcz7_7
      try clear hcz7_8
      try clear hfz11_0
      try clear hfz11_1
      try clear hfz11_2
      try clear hfz11_3
      try clear hfz11_4
      try clear hfz11_5
      try clear hfz11_6
      try clear hfz11_7
      try clear hfz11_8
      try clear hfz7_0
      try clear hfz7_1
      try clear hfz7_2
      try clear hfz7_3
      try clear hfz7_4
      try clear hfz7_5
      try clear hfz7_6
      try clear hfz7_7
      try clear hfz7_8
      obtain ⟨kq, x4_4, rfl, HA, HJ4, BK101, HB⟩ := hcut
      cases kq with
      | zero => exact absurd HA.out (by simp [policy_Print.j0])
      | succ kj4 =>
        have H := HA.out
        clear HA
        simp only [policy_Print.j0] at H
        have HC13 := Aside0.mk H
        clear H
        go_upto_if 18 with (fail)
        go_cut [5] (fun v5 wc => ∃ (kq : Nat) (x5_12 : ByteArray), v5 = .string x5_12 ∧ Aside0 (policy_Print.j1 kq x4_4 x5_12 t103 a0_0 a0_1 a0_2 a0_3 a0_4 a0_5 a0_6 a0_7 a0_8 = some (r1, r2)) ∧ Aside0 (kq ≤ kj4) ∧ Aside0 (wc.heap[gb101]? = some (.cells #[.bool a0_0, .int .u8 a0_1, .int .u8 a0_2, .int .u8 a0_3, .int .u8 a0_4, .int .i64 a0_5, .string a0_6, .int .i64 a0_7, .int .i64 a0_8] 33 (0, 0))) ∧ Aside0 (Below w.heap.size w wc))
        case first =>
          have H := HC13.out
          clear HC13
          by_cases c14 : a0_6.toList = ([] : List UInt8)
          · rw [if_pos c14] at H
            have c14b0 : (a0_6.toList == ([] : List UInt8)) = true := beq_iff_eq.mpr c14
            have c14b6 : a0_6.toList.isEmpty = true := by rw [List.isEmpty_iff]; exact c14
            have c14b1 : (a0_6.toList != ([] : List UInt8)) = false := bne_eq_false_iff_eq.mpr c14
            clear c14
            (first | rw [c14b0] | rw [c14b6] | (simp only [i64_w, i32_w]; rw [c14b0]) | skip)
            replace H := Option.bind_eq_some_iff.mp H
            obtain ⟨t104, A150, H⟩ := H
            replace H : (if t104.size + 1 ≤ 9223372036854775807 then ((E.Itoa.f a0_5).bind fun t105 => (if (t104 ++ (⟨#[47]⟩ : ByteArray)).size + t105.size ≤ 9223372036854775807 then (policy_Print.j1 kj4 x4_4 ((t104 ++ (⟨#[47]⟩ : ByteArray)) ++ t105) t103 a0_0 a0_1 a0_2 a0_3 a0_4 a0_5 a0_6 a0_7 a0_8) else (none))) else (none)) = some (r1, r2) := H
            have A15 := Aside0.mk A150
            clear A150
            by_cases c16 : t104.size + 1 ≤ 9223372036854775807
            · rw [if_pos c16] at H
              have c16b0 := eq_true c16
              have c16b1 : decide (t104.size + 1 ≤ 9223372036854775807) = true := decide_eq_true c16
              try have c16b2 : (9223372036854775807 < t104.size + 1) = False := eq_false (Nat.not_lt.2 c16)
              replace H := Option.bind_eq_some_iff.mp H
              obtain ⟨t105, A170, H⟩ := H
              replace H : (if (t104 ++ (⟨#[47]⟩ : ByteArray)).size + t105.size ≤ 9223372036854775807 then (policy_Print.j1 kj4 x4_4 ((t104 ++ (⟨#[47]⟩ : ByteArray)) ++ t105) t103 a0_0 a0_1 a0_2 a0_3 a0_4 a0_5 a0_6 a0_7 a0_8) else (none)) = some (r1, r2) := H
              have A17 := Aside0.mk A170
              clear A170
              by_cases c18 : (t104 ++ (⟨#[47]⟩ : ByteArray)).size + t105.size ≤ 9223372036854775807
              · rw [if_pos c18] at H
                have c18b0 := eq_true c18
                have c18b1 : decide ((t104 ++ (⟨#[47]⟩ : ByteArray)).size + t105.size ≤ 9223372036854775807) = true := decide_eq_true c18
                try have c18b2 : (9223372036854775807 < (t104 ++ (⟨#[47]⟩ : ByteArray)).size + t105.size) = False := eq_false (Nat.not_lt.2 c18)
                try have c18b5 : (9223372036854775807 < t104.size + 1 + t105.size) = False := eq_false (Nat.not_lt.2 (by have h_ := c18; simp only [ByteArray.size_append] at h_; exact h_))
                have H' := Aside0.mk H
                clear H
                try go_wp2
                have n0_ := Aside0.mk (blk_drew BK101.out)
                have n1_ := Aside0.mk (below_drew1 HB.out)
                clear BK101
                clear HB
                have BK101 := n0_
                have HB := n1_
                clear n0_ n1_
                refine start_ (n := 10) (S := fun w' => w'.cell? ⟨gb101, 0, none⟩ = some (.bool a0_0) ∧ w'.cell? ⟨gb101, 1, none⟩ = some (.int .u8 a0_1) ∧ w'.cell? ⟨gb101, 2, none⟩ = some (.int .u8 a0_2) ∧ w'.cell? ⟨gb101, 3, none⟩ = some (.int .u8 a0_3) ∧ w'.cell? ⟨gb101, 4, none⟩ = some (.int .u8 a0_4) ∧ w'.cell? ⟨gb101, 5, none⟩ = some (.int .i64 a0_5) ∧ w'.cell? ⟨gb101, 6, none⟩ = some (.string a0_6) ∧ w'.cell? ⟨gb101, 7, none⟩ = some (.int .i64 a0_7) ∧ w'.cell? ⟨gb101, 8, none⟩ = some (.int .i64 a0_8)) (ds := []) #[false, false, false, false, false, false, false, false, false, false] (by kernel_rfl) rfl rfl ⟨(blk_cell BK101.out 0).trans rfl, (blk_cell BK101.out 1).trans rfl, (blk_cell BK101.out 2).trans rfl, (blk_cell BK101.out 3).trans rfl, (blk_cell BK101.out 4).trans rfl, (blk_cell BK101.out 5).trans rfl, (blk_cell BK101.out 6).trans rfl, (blk_cell BK101.out 7).trans rfl, (blk_cell BK101.out 8).trans rfl⟩ (fun hHeld => ?_); refine with_tabW policy_Print.tab7 policy_Print.bits7 (fun HT_ HW_ => ?_)
                generalize wc.drew = w19 at BK101 HB hHeld ⊢
                refine pure_ (i := 0) (N := some 19) (v := ?_) (a' := ?_) #[true, false, false, false, false, false, false, false, false, false] rfl rfl (any_of HT_.out (by kernel_rfl)) (fun _ _ _ h => h) (Or.inl ⟨by rfl, ?_⟩) ?_ ?_
                rotate_left
                · intro w'
                  go_simp
                  with_reducible rfl
                rotate_left
                · simp only [Act.put, List.setIfInBounds_toArray, List.set_cons_zero, List.set_cons_succ, i64_w, i32_w]
                  rfl
                refine pure_ (i := 5) (N := some 24) (v := ?_) (a' := ?_) #[true, false, false, false, false, true, false, false, false, false] rfl rfl (any_of HT_.out (by kernel_rfl)) (fun _ _ _ h => h) (Or.inl ⟨by rfl, ?_⟩) ?_ ?_
                rotate_left
                · intro w'
                  go_simp
                  with_reducible rfl
                rotate_left
                · simp only [Act.put, List.setIfInBounds_toArray, List.set_cons_zero, List.set_cons_succ, i64_w, i32_w]
                  rfl
                refine take_ (i := 1) (N := some 20) (v := ?_) (a' := ?_) #[true, true, false, false, false, true, false, false, false, false] rfl rfl (take_ofW HT_.out HW_.out (by kernel_rfl)) (fun _ _ _ h => h) (Or.inl ⟨by rfl, ?_⟩) hHeld ?_ ?_
                rotate_left
                · rintro w' ⟨s0, s1, s2, s3, s4, s5, s6, s7, s8⟩
                  go_simp
                  with_reducible rfl
                rotate_left
                · simp only [Act.put, List.setIfInBounds_toArray, List.set_cons_zero, List.set_cons_succ, i64_w, i32_w]
                  rfl
                refine pure_ (i := 2) (N := some 21) (v := ?_) (a' := ?_) #[true, true, true, false, false, true, false, false, false, false] rfl rfl (any_of HT_.out (by kernel_rfl)) (fun _ _ _ h => h) (Or.inl ⟨by rfl, ?_⟩) ?_ ?_
                rotate_left
                · intro w'
                  go_simp
                  with_reducible rfl
                rotate_left
                · simp only [Act.put, List.setIfInBounds_toArray, List.set_cons_zero, List.set_cons_succ, i64_w, i32_w]
                  rfl
                refine take_ (i := 6) (N := some 25) (v := ?_) (a' := ?_) #[true, true, true, false, false, true, true, false, false, false] rfl rfl (take_ofW HT_.out HW_.out (by kernel_rfl)) (fun _ _ _ h => h) (Or.inl ⟨by rfl, ?_⟩) hHeld ?_ ?_
                rotate_left
                · rintro w' ⟨s0, s1, s2, s3, s4, s5, s6, s7, s8⟩
                  go_simp
                  with_reducible rfl
                rotate_left
                · simp only [Act.put, List.setIfInBounds_toArray, List.set_cons_zero, List.set_cons_succ, i64_w, i32_w]
                  rfl
                refine one_ (i := 3) (N := some 22) #[true, true, true, true, false, true, true, false, false, false] rfl rfl (one_of HT_.out (by kernel_rfl)) (by decide) (fun K hK => ?_)
                refine goes_ Tryd.func20 (by kernel_rfl) rfl #[.agg #[.int .u8 a0_1, .int .u8 a0_2, .int .u8 a0_3, .int .u8 a0_4, .string (⟨#[]⟩ : ByteArray)]] (by rfl) rfl rfl (by (try simp only [List.map_toArray, List.map_cons, List.map_nil]); first | done | rfl | (simp only [List.length_drop, List.length_take]; rfl)) ?_
                with_reducible refine (E.hPrint.calls a0_1 a0_2 a0_3 a0_4 (⟨#[]⟩ : ByteArray) t104 _ ?side1 A15.out).mono ?_
                (case side1 => exact StdW.below HS_.out (by repeat (first | (with_reducible first | exact HB.out | apply below_alloc | apply pw_below_drewN | apply below_drew1 | refine below_set ?_ GE101.out) | exact HB.out)))
                rintro e w20 ⟨rfl, hb⟩
                refine ⟨_, rfl, ?_⟩
                have n0_ := Aside0.mk (blk_below (g := gb101) (o := .cells #[.bool a0_0, .int .u8 a0_1, .int .u8 a0_2, .int .u8 a0_3, .int .u8 a0_4, .int .i64 a0_5, .string a0_6, .int .i64 a0_7, .int .i64 a0_8] 33 (0, 0)) (by (with_reducible repeat (first | refine blk_drewN ?_ _ | refine blk_drew ?_ | refine blk_alloc ?_ _)); exact BK101.out) hb)
                have n1_ := Aside0.mk (below_step (by repeat (first | (with_reducible first | exact HB.out | apply below_alloc | apply pw_below_drewN | apply below_drew1 | refine below_set ?_ GE101.out) | exact HB.out)) hb)
                clear BK101
                clear HB
                have BK101 := n0_
                have HB := n1_
                clear n0_ n1_
                (try clear hb)
                (try clear hb2)
                (try clear hk)
                (try clear hi)
                refine hK.out _ _ ⟨(blk_cell BK101.out 0).trans rfl, (blk_cell BK101.out 1).trans rfl, (blk_cell BK101.out 2).trans rfl, (blk_cell BK101.out 3).trans rfl, (blk_cell BK101.out 4).trans rfl, (blk_cell BK101.out 5).trans rfl, (blk_cell BK101.out 6).trans rfl, (blk_cell BK101.out 7).trans rfl, (blk_cell BK101.out 8).trans rfl⟩ (fun hHeld => ?_)
                clear hK K
                refine norm_ (a' := ?_) ?_ ?_
                rotate_left
                · show Act.put _ (some 22) _ = _
                  simp only [Act.put, List.setIfInBounds_toArray, List.set_cons_zero, List.set_cons_succ, i64_w, i32_w]
                  rfl
                refine pure_ (i := 4) (N := some 23) (v := ?_) (a' := ?_) #[true, true, true, true, true, true, true, false, false, false] rfl rfl (any_of HT_.out (by kernel_rfl)) (fun _ _ _ h => h) (Or.inl ⟨by rfl, ?_⟩) ?_ ?_
                rotate_left
                · intro w'
                  go_simp
                  with_reducible rfl
                rotate_left
                · simp only [Act.put, List.setIfInBounds_toArray, List.set_cons_zero, List.set_cons_succ, i64_w, i32_w]
                  rfl
                refine one_ (i := 7) (N := some 26) #[true, true, true, true, true, true, true, true, false, false] rfl rfl (one_of HT_.out (by kernel_rfl)) (by decide) (fun K hK => ?_)
                refine goes_ Tryd.func19 (by kernel_rfl) rfl #[.int .i64 a0_5] (by rfl) rfl rfl (by (try simp only [List.map_toArray, List.map_cons, List.map_nil]); first | done | rfl | (simp only [List.length_drop, List.length_take]; rfl)) ?_
                with_reducible refine (E.Itoa.calls a0_5 t105 _ ?side1 A17.out).mono ?_
                (case side1 => exact StdW.below HS_.out (by repeat (first | (with_reducible first | exact HB.out | apply below_alloc | apply pw_below_drewN | apply below_drew1 | refine below_set ?_ GE101.out) | exact HB.out)))
                rintro e w21 ⟨rfl, hb⟩
                refine ⟨_, rfl, ?_⟩
                have n0_ := Aside0.mk (blk_below (g := gb101) (o := .cells #[.bool a0_0, .int .u8 a0_1, .int .u8 a0_2, .int .u8 a0_3, .int .u8 a0_4, .int .i64 a0_5, .string a0_6, .int .i64 a0_7, .int .i64 a0_8] 33 (0, 0)) (by (with_reducible repeat (first | refine blk_drewN ?_ _ | refine blk_drew ?_ | refine blk_alloc ?_ _)); exact BK101.out) hb)
                have n1_ := Aside0.mk (below_step (by repeat (first | (with_reducible first | exact HB.out | apply below_alloc | apply pw_below_drewN | apply below_drew1 | refine below_set ?_ GE101.out) | exact HB.out)) hb)
                clear BK101
                clear HB
                have BK101 := n0_
                have HB := n1_
                clear n0_ n1_
                (try clear hb)
                (try clear hb2)
                (try clear hk)
                (try clear hi)
                refine hK.out _ _ ⟨(blk_cell BK101.out 0).trans rfl, (blk_cell BK101.out 1).trans rfl, (blk_cell BK101.out 2).trans rfl, (blk_cell BK101.out 3).trans rfl, (blk_cell BK101.out 4).trans rfl, (blk_cell BK101.out 5).trans rfl, (blk_cell BK101.out 6).trans rfl, (blk_cell BK101.out 7).trans rfl, (blk_cell BK101.out 8).trans rfl⟩ (fun hHeld => ?_)
                clear hK K
                refine norm_ (a' := ?_) ?_ ?_
                rotate_left
                · show Act.put _ (some 26) _ = _
                  simp only [Act.put, List.setIfInBounds_toArray, List.set_cons_zero, List.set_cons_succ, i64_w, i32_w]
                  rfl
                refine pure_ (i := 8) (N := some 27) (v := ?_) (a' := ?_) #[true, true, true, true, true, true, true, true, true, false] rfl rfl (any_of HT_.out (by kernel_rfl)) (fun _ _ _ h => h) (Or.inl ⟨by rfl, ?_⟩) ?_ ?_
                rotate_left
                · intro w'
                  go_simp
                  with_reducible rfl
                rotate_left
                · simp only [Act.put, List.setIfInBounds_toArray, List.set_cons_zero, List.set_cons_succ, i64_w, i32_w]
                  rfl
                refine pure_ (i := 9) (N := some 5) (v := ?_) (a' := ?_) #[true, true, true, true, true, true, true, true, true, true] rfl rfl (any_of HT_.out (by kernel_rfl)) (fun _ _ _ h => h) (Or.inl ⟨by rfl, ?_⟩) ?_ ?_
                rotate_left
                · intro w'
                  go_simp
                  with_reducible rfl
                rotate_left
                · simp only [Act.put, List.setIfInBounds_toArray, List.set_cons_zero, List.set_cons_succ, i64_w, i32_w]
                  rfl
                refine done_ (done_of HT_.out (by kernel_rfl)) ?_
                try go_wp2
                go_meet
                case rel => exact ⟨_, ((t104 ++ (⟨#[47]⟩ : ByteArray)) ++ t105), (by first | rfl | (simp; done) | (simp [*]; done)), H', ⟨by have := HJ4.out; first | omega | exact Nat.le_refl _⟩, ⟨by (with_reducible repeat (first | refine blk_drewN ?_ _ | refine blk_drew ?_ | refine blk_alloc ?_ _)); exact BK101.out⟩, ⟨by repeat (first | (with_reducible first | exact HB.out | apply below_alloc | apply pw_below_drewN | apply below_drew1 | refine below_set ?_ GE101.out) | exact HB.out)⟩⟩
              · rw [if_neg c18] at H
                exact absurd H (by simp)
            · rw [if_neg c16] at H
              exact absurd H (by simp)
          · rw [if_neg c14] at H
            have c14b0 : (a0_6.toList == ([] : List UInt8)) = false := beq_eq_false_iff_ne.mpr c14
            have c14b6 : a0_6.toList.isEmpty = false := by rw [← Bool.not_eq_true, List.isEmpty_iff]; exact c14
            have c14b1 : (a0_6.toList != ([] : List UInt8)) = true := bne_iff_ne.mpr c14
            (first | rw [c14b0] | rw [c14b6] | (simp only [i64_w, i32_w]; rw [c14b0]) | skip)
            have H' := Aside0.mk H
            clear H
            go_wp2
            go_meet
            case rel => exact ⟨_, (a0_6), (by first | rfl | (simp; done) | (simp [*]; done)), H', ⟨by have := HJ4.out; first | omega | exact Nat.le_refl _⟩, ⟨by (with_reducible repeat (first | refine blk_drewN ?_ _ | refine blk_drew ?_ | refine blk_alloc ?_ _)); exact BK101.out⟩, ⟨by repeat (first | (with_reducible first | exact HB.out | apply below_alloc | apply pw_below_drewN | apply below_drew1 | refine below_set ?_ GE101.out) | exact HB.out)⟩⟩
        case rest =>
          clear HC13
          try clear c1
          try clear c2
          try clear p2
          try clear c3
          try clear c10
          try clear c12
          try clear c14
          try clear c14b0
          try clear c14b1
          try clear c16
          try clear c16b0
          try clear c16b1
          try clear c16b2
          try clear c18
          try clear c18b0
          try clear c18b1
          try clear c18b2
          try clear c19
          try clear c20
          try clear hcz11_0
          try clear hcz11_1
          try clear hcz11_2
          try clear hcz11_3
          try clear hcz11_4
          try clear hcz11_5
          try clear hcz11_6
          try clear hcz11_7
          try clear hcz11_8
          try clear hcz7_0
          try clear hcz7_1
          try clear hcz7_2
          try clear hcz7_3
          try clear hcz7_4
          try clear hcz7_5
          try clear hcz7_6
          try clear hcz7_7
          try clear hcz7_8
          try clear hfz11_0
          try clear hfz11_1
          try clear hfz11_2
          try clear hfz11_3
          try clear hfz11_4
          try clear hfz11_5
          try clear hfz11_6
          try clear hfz11_7
          try clear hfz11_8
          try clear hfz7_0
          try clear hfz7_1
          try clear hfz7_2
          try clear hfz7_3
          try clear hfz7_4
          try clear hfz7_5
          try clear hfz7_6
          try clear hfz7_7
          try clear hfz7_8
          try clear p2
          obtain ⟨kq, x5_12, rfl, HA, HJ12, BK101, HB⟩ := hcut
          cases kq with
          | zero => exact absurd HA.out (by simp [policy_Print.j1])
          | succ kj12 =>
            have H := HA.out
            clear HA
            simp only [policy_Print.j1] at H
            by_cases c22 : a0_8 > a0_7
            · rw [if_pos c22] at H
              have c22b0 : decide (a0_7 < a0_8) = true := decide_eq_true c22
              clear c22
              replace H := Option.bind_eq_some_iff.mp H
              obtain ⟨t106, A230, H⟩ := H
              replace H : (if 1 + t106.size ≤ 9223372036854775807 then (if t103.size + ((⟨#[45]⟩ : ByteArray) ++ t106).size ≤ 9223372036854775807 then ((E.Join.f (([x4_4, x5_12, t103 ++ ((⟨#[45]⟩ : ByteArray) ++ t106)] : List ByteArray)) (⟨#[32]⟩ : ByteArray)).bind fun t110 => (some (t110, 0))) else (none)) else (none)) = some (r1, r2) := H
              have A23 := Aside0.mk A230
              clear A230
              by_cases c24 : 1 + t106.size ≤ 9223372036854775807
              · rw [if_pos c24] at H
                have c24b0 := eq_true c24
                have c24b1 : decide (1 + t106.size ≤ 9223372036854775807) = true := decide_eq_true c24
                try have c24b2 : (9223372036854775807 < 1 + t106.size) = False := eq_false (Nat.not_lt.2 c24)
                by_cases c25 : t103.size + ((⟨#[45]⟩ : ByteArray) ++ t106).size ≤ 9223372036854775807
                · rw [if_pos c25] at H
                  have c25b0 := eq_true c25
                  have c25b1 : decide (t103.size + ((⟨#[45]⟩ : ByteArray) ++ t106).size ≤ 9223372036854775807) = true := decide_eq_true c25
                  try have c25b2 : (9223372036854775807 < t103.size + ((⟨#[45]⟩ : ByteArray) ++ t106).size) = False := eq_false (Nat.not_lt.2 c25)
                  try have c25b5 : (9223372036854775807 < t103.size + (1 + t106.size)) = False := eq_false (Nat.not_lt.2 (by have h_ := c25; simp only [ByteArray.size_append] at h_; exact h_))
                  obtain ⟨y107, hy107⟩ : ∃ y_ : List ByteArray, y_ = (([x4_4, x5_12, t103 ++ ((⟨#[45]⟩ : ByteArray) ++ t106)] : List ByteArray)) := ⟨_, rfl⟩
                  replace H : ((E.Join.f y107 (⟨#[32]⟩ : ByteArray)).bind fun t110 => (some (t110, 0))) = some (r1, r2) := by first | (rw [hy107]; with_reducible exact H) | (have H2_ := (Option.bind_some _ _).symm.trans H; rw [hy107]; with_reducible exact H2_) | (have H2_ := (Option.bind_some _ _).symm.trans H; with_reducible exact H2_) | with_reducible exact H | (rw [hy107]; exact H) | exact H
                  have Ny107 := Aside0.mk hy107
                  clear hy107
                  replace H := Option.bind_eq_some_iff.mp H
                  obtain ⟨t110, A260, H⟩ := H
                  replace H : (some (t110, 0)) = some (r1, r2) := H
                  have A26 := Aside0.mk A260
                  clear A260
                  simp only [Option.some.injEq, Prod.mk.injEq] at H
                  obtain ⟨rfl, rfl⟩ := H
                  have hcz27_0 : wc.cell? ⟨gb101, 0, none⟩ = some (.bool a0_0) := (blk_cell BK101.out 0).trans rfl
                  have hcz27_1 : wc.cell? ⟨gb101, 1, none⟩ = some (.int .u8 a0_1) := (blk_cell BK101.out 1).trans rfl
                  have hcz27_2 : wc.cell? ⟨gb101, 2, none⟩ = some (.int .u8 a0_2) := (blk_cell BK101.out 2).trans rfl
                  have hcz27_3 : wc.cell? ⟨gb101, 3, none⟩ = some (.int .u8 a0_3) := (blk_cell BK101.out 3).trans rfl
                  have hcz27_4 : wc.cell? ⟨gb101, 4, none⟩ = some (.int .u8 a0_4) := (blk_cell BK101.out 4).trans rfl
                  have hcz27_5 : wc.cell? ⟨gb101, 5, none⟩ = some (.int .i64 a0_5) := (blk_cell BK101.out 5).trans rfl
                  have hcz27_6 : wc.cell? ⟨gb101, 6, none⟩ = some (.string a0_6) := (blk_cell BK101.out 6).trans rfl
                  have hcz27_7 : wc.cell? ⟨gb101, 7, none⟩ = some (.int .i64 a0_7) := (blk_cell BK101.out 7).trans rfl
                  have hcz27_8 : wc.cell? ⟨gb101, 8, none⟩ = some (.int .i64 a0_8) := (blk_cell BK101.out 8).trans rfl
                  have hfz27_0 := blk_frozen BK101.out 0
                  have hfz27_1 := blk_frozen BK101.out 1
                  have hfz27_2 := blk_frozen BK101.out 2
                  have hfz27_3 := blk_frozen BK101.out 3
                  have hfz27_4 := blk_frozen BK101.out 4
                  have hfz27_5 := blk_frozen BK101.out 5
                  have hfz27_6 := blk_frozen BK101.out 6
                  have hfz27_7 := blk_frozen BK101.out 7
                  have hfz27_8 := blk_frozen BK101.out 8
                  go_wp2_with (first | ((with_reducible refine gate_callee (f := 19) rfl ?_); refine goesL_ (some 36) rfl rfl Tryd.func19 (by kernel_rfl) rfl #[.int .i64 a0_8] rfl (by (try simp only [List.map_toArray, List.map_cons, List.map_nil]); first | done | rfl | (simp only [List.length_drop, List.length_take]; rfl)) ?_; (with_reducible refine (E.Itoa.calls a0_8 t106 _ ?side1 A23.out).mono ?_); (case side1 => exact StdW.below HS_.out (by repeat (first | (with_reducible first | exact HB.out | apply below_alloc | apply pw_below_drewN | apply below_drew1 | refine below_set ?_ GE101.out) | exact HB.out))); rintro e w28 ⟨rfl, hb⟩; refine ⟨_, rfl, ?_⟩; have n0_ := Aside0.mk (blk_below (g := gb101) (o := .cells #[.bool a0_0, .int .u8 a0_1, .int .u8 a0_2, .int .u8 a0_3, .int .u8 a0_4, .int .i64 a0_5, .string a0_6, .int .i64 a0_7, .int .i64 a0_8] 33 (0, 0)) (by (with_reducible repeat (first | refine blk_drewN ?_ _ | refine blk_drew ?_ | refine blk_alloc ?_ _)); exact BK101.out) hb); have n1_ := Aside0.mk (below_step (by repeat (first | (with_reducible first | exact HB.out | apply below_alloc | apply pw_below_drewN | apply below_drew1 | refine below_set ?_ GE101.out) | exact HB.out)) hb); clear BK101; clear HB; have BK101 := n0_; have HB := n1_; clear n0_ n1_; (try clear hb); (try clear hb2); (try clear hk); (try clear hi)) | ((with_reducible refine gate_dst (N := 42) rfl ?_); refine Kd.R_lit Kd.string _ 9 ?hg (N := 42) ?hd (xs := ([x4_4, x5_12, t103 ++ ((⟨#[45]⟩ : ByteArray) ++ t106)] : List ByteArray)) (inner := [.string x4_4, .string x5_12, .string (t103 ++ ((⟨#[45]⟩ : ByteArray) ++ t106))]) (ok := fun _ => True) (okp := fun _ => True) ?hr ?hp (fun _ hk => hk) trivial (Below.refl _ _) (Nat.le_refl _) (by simp) ?_; (case hd => rfl); (case hg => rfl); (case hr => first | (go_simp; done) | (go_simp; rfl)); (case hp => exact (Reps.one (show Kd.M Kd.string _ _ _ x4_4 [.string x4_4] from rfl) (Reps.one (show Kd.M Kd.string _ _ _ x5_12 [.string x5_12] from rfl) (Reps.one (show Kd.M Kd.string _ _ _ (t103 ++ ((⟨#[45]⟩ : ByteArray) ++ t106)) [.string (t103 ++ ((⟨#[45]⟩ : ByteArray) ++ t106))] from rfl) (Reps.none _ _))))); intro v108 w29 ho30 hb hg_ hnew_; clear hg_ hnew_; (first | rw [← Ny107.out] at ho30 | (simp only [Int.reduceToNat] at ho30; rw [← Ny107.out] at ho30)); have n0_ := Aside0.mk (Kd.R_lower ho30 (below_size (by repeat (first | (with_reducible first | exact HB.out | apply below_alloc | apply pw_below_drewN | apply below_drew1 | refine below_set ?_ GE101.out) | exact HB.out)))); have n1_ := Aside0.mk (blk_below (g := gb101) (o := .cells #[.bool a0_0, .int .u8 a0_1, .int .u8 a0_2, .int .u8 a0_3, .int .u8 a0_4, .int .i64 a0_5, .string a0_6, .int .i64 a0_7, .int .i64 a0_8] 33 (0, 0)) (by (with_reducible repeat (first | refine blk_drewN ?_ _ | refine blk_drew ?_ | refine blk_alloc ?_ _)); exact BK101.out) hb); have n2_ := Aside0.mk (below_step (by repeat (first | (with_reducible first | exact HB.out | apply below_alloc | apply pw_below_drewN | apply below_drew1 | refine below_set ?_ GE101.out) | exact HB.out)) hb); clear BK101; clear HB; have HO109 := n0_; have BK101 := n1_; have HB := n2_; clear n0_ n1_ n2_; clear hb ho30; obtain ⟨Ao31, co31, eo31⟩ := Kd.R_slice HO109.out; subst eo31) | ((with_reducible refine gate_callee (f := 21) rfl ?_); refine goesL_ (some 43) rfl rfl Tryd.func21 (by kernel_rfl) rfl #[.slice Ao31 y107.length co31, .string (⟨#[32]⟩ : ByteArray)] rfl (by (try simp only [List.map_toArray, List.map_cons, List.map_nil]); first | done | rfl | (simp only [List.length_drop, List.length_take]; rfl)) ?_; (with_reducible refine (E.Join.calls _ _ y107 (⟨#[32]⟩ : ByteArray) t110 _ ?side1 ?side2 ?side3 A26.out).mono ?_); (case side1 => repeat (first | exact (Kd.R_reads' HO109.out).2.2 | (with_reducible refine Kd.C_alloc ?_ _) | (with_reducible refine Kd.C_drewN ?_ _) | (with_reducible refine Kd.C_drew ?_))); (case side2 => exact (Kd.R_reads' HO109.out).2.1); (case side3 => exact StdW.below HS_.out (by repeat (first | (with_reducible first | exact HB.out | apply below_alloc | apply pw_below_drewN | apply below_drew1 | refine below_set ?_ GE101.out) | exact HB.out))); rintro e w32 ⟨rfl, hb⟩; refine ⟨_, rfl, ?_⟩; have n0_ := Aside0.mk (Kd.R_below (by (with_reducible repeat (first | apply Kd.R_alloc | apply Kd.R_drewN | apply Kd.R_drew)); exact HO109.out) hb); have n1_ := Aside0.mk (blk_below (g := gb101) (o := .cells #[.bool a0_0, .int .u8 a0_1, .int .u8 a0_2, .int .u8 a0_3, .int .u8 a0_4, .int .i64 a0_5, .string a0_6, .int .i64 a0_7, .int .i64 a0_8] 33 (0, 0)) (by (with_reducible repeat (first | refine blk_drewN ?_ _ | refine blk_drew ?_ | refine blk_alloc ?_ _)); exact BK101.out) hb); have n2_ := Aside0.mk (below_step (by repeat (first | (with_reducible first | exact HB.out | apply below_alloc | apply pw_below_drewN | apply below_drew1 | refine below_set ?_ GE101.out) | exact HB.out)) hb); clear HO109; clear BK101; clear HB; have HO109 := n0_; have BK101 := n1_; have HB := n2_; clear n0_ n1_ n2_; (try clear hb); (try clear hb2); (try clear hk); (try clear hi)))
                  go_ret2
                  exact ⟨by first | rfl | (simp [errW_none, errW_some] <;> rfl) | (simp [*, errW_none, errW_some] <;> rfl), by repeat (first | (with_reducible first | exact HB.out | apply below_alloc | apply pw_below_drewN | apply below_drew1 | refine below_set ?_ GE101.out) | exact HB.out)⟩
                · rw [if_neg c25] at H
                  exact absurd H (by simp)
              · rw [if_neg c24] at H
                exact absurd H (by simp)
            · rw [if_neg c22] at H
              have c22b0 : decide (a0_7 < a0_8) = false := decide_eq_false c22
              clear c22
              obtain ⟨y111, hy111⟩ : ∃ y_ : List ByteArray, y_ = (([x4_4, x5_12, t103] : List ByteArray)) := ⟨_, rfl⟩
              replace H : ((E.Join.f y111 (⟨#[32]⟩ : ByteArray)).bind fun t114 => (some (t114, 0))) = some (r1, r2) := by first | (rw [hy111]; with_reducible exact H) | (have H2_ := (Option.bind_some _ _).symm.trans H; rw [hy111]; with_reducible exact H2_) | (have H2_ := (Option.bind_some _ _).symm.trans H; with_reducible exact H2_) | with_reducible exact H | (rw [hy111]; exact H) | exact H
              have Ny111 := Aside0.mk hy111
              clear hy111
              replace H := Option.bind_eq_some_iff.mp H
              obtain ⟨t114, A330, H⟩ := H
              replace H : (some (t114, 0)) = some (r1, r2) := H
              have A33 := Aside0.mk A330
              clear A330
              simp only [Option.some.injEq, Prod.mk.injEq] at H
              obtain ⟨rfl, rfl⟩ := H
              have hcz34_0 : wc.cell? ⟨gb101, 0, none⟩ = some (.bool a0_0) := (blk_cell BK101.out 0).trans rfl
              have hcz34_1 : wc.cell? ⟨gb101, 1, none⟩ = some (.int .u8 a0_1) := (blk_cell BK101.out 1).trans rfl
              have hcz34_2 : wc.cell? ⟨gb101, 2, none⟩ = some (.int .u8 a0_2) := (blk_cell BK101.out 2).trans rfl
              have hcz34_3 : wc.cell? ⟨gb101, 3, none⟩ = some (.int .u8 a0_3) := (blk_cell BK101.out 3).trans rfl
              have hcz34_4 : wc.cell? ⟨gb101, 4, none⟩ = some (.int .u8 a0_4) := (blk_cell BK101.out 4).trans rfl
              have hcz34_5 : wc.cell? ⟨gb101, 5, none⟩ = some (.int .i64 a0_5) := (blk_cell BK101.out 5).trans rfl
              have hcz34_6 : wc.cell? ⟨gb101, 6, none⟩ = some (.string a0_6) := (blk_cell BK101.out 6).trans rfl
              have hcz34_7 : wc.cell? ⟨gb101, 7, none⟩ = some (.int .i64 a0_7) := (blk_cell BK101.out 7).trans rfl
              have hcz34_8 : wc.cell? ⟨gb101, 8, none⟩ = some (.int .i64 a0_8) := (blk_cell BK101.out 8).trans rfl
              have hfz34_0 := blk_frozen BK101.out 0
              have hfz34_1 := blk_frozen BK101.out 1
              have hfz34_2 := blk_frozen BK101.out 2
              have hfz34_3 := blk_frozen BK101.out 3
              have hfz34_4 := blk_frozen BK101.out 4
              have hfz34_5 := blk_frozen BK101.out 5
              have hfz34_6 := blk_frozen BK101.out 6
              have hfz34_7 := blk_frozen BK101.out 7
              have hfz34_8 := blk_frozen BK101.out 8
              go_wp2_with (first | ((with_reducible refine gate_dst (N := 42) rfl ?_); refine Kd.R_lit Kd.string _ 9 ?hg (N := 42) ?hd (xs := ([x4_4, x5_12, t103] : List ByteArray)) (inner := [.string x4_4, .string x5_12, .string t103]) (ok := fun _ => True) (okp := fun _ => True) ?hr ?hp (fun _ hk => hk) trivial (Below.refl _ _) (Nat.le_refl _) (by simp) ?_; (case hd => rfl); (case hg => rfl); (case hr => first | (go_simp; done) | (go_simp; rfl)); (case hp => exact (Reps.one (show Kd.M Kd.string _ _ _ x4_4 [.string x4_4] from rfl) (Reps.one (show Kd.M Kd.string _ _ _ x5_12 [.string x5_12] from rfl) (Reps.one (show Kd.M Kd.string _ _ _ t103 [.string t103] from rfl) (Reps.none _ _))))); intro v112 w35 ho36 hb hg_ hnew_; clear hg_ hnew_; (first | rw [← Ny111.out] at ho36 | (simp only [Int.reduceToNat] at ho36; rw [← Ny111.out] at ho36)); have n0_ := Aside0.mk (Kd.R_lower ho36 (below_size (by repeat (first | (with_reducible first | exact HB.out | apply below_alloc | apply pw_below_drewN | apply below_drew1 | refine below_set ?_ GE101.out) | exact HB.out)))); have n1_ := Aside0.mk (blk_below (g := gb101) (o := .cells #[.bool a0_0, .int .u8 a0_1, .int .u8 a0_2, .int .u8 a0_3, .int .u8 a0_4, .int .i64 a0_5, .string a0_6, .int .i64 a0_7, .int .i64 a0_8] 33 (0, 0)) (by (with_reducible repeat (first | refine blk_drewN ?_ _ | refine blk_drew ?_ | refine blk_alloc ?_ _)); exact BK101.out) hb); have n2_ := Aside0.mk (below_step (by repeat (first | (with_reducible first | exact HB.out | apply below_alloc | apply pw_below_drewN | apply below_drew1 | refine below_set ?_ GE101.out) | exact HB.out)) hb); clear BK101; clear HB; have HO113 := n0_; have BK101 := n1_; have HB := n2_; clear n0_ n1_ n2_; clear hb ho36; obtain ⟨Ao37, co37, eo37⟩ := Kd.R_slice HO113.out; subst eo37) | ((with_reducible refine gate_callee (f := 21) rfl ?_); refine goesL_ (some 43) rfl rfl Tryd.func21 (by kernel_rfl) rfl #[.slice Ao37 y111.length co37, .string (⟨#[32]⟩ : ByteArray)] rfl (by (try simp only [List.map_toArray, List.map_cons, List.map_nil]); first | done | rfl | (simp only [List.length_drop, List.length_take]; rfl)) ?_; (with_reducible refine (E.Join.calls _ _ y111 (⟨#[32]⟩ : ByteArray) t114 _ ?side1 ?side2 ?side3 A33.out).mono ?_); (case side1 => repeat (first | exact (Kd.R_reads' HO113.out).2.2 | (with_reducible refine Kd.C_alloc ?_ _) | (with_reducible refine Kd.C_drewN ?_ _) | (with_reducible refine Kd.C_drew ?_))); (case side2 => exact (Kd.R_reads' HO113.out).2.1); (case side3 => exact StdW.below HS_.out (by repeat (first | (with_reducible first | exact HB.out | apply below_alloc | apply pw_below_drewN | apply below_drew1 | refine below_set ?_ GE101.out) | exact HB.out))); rintro e w38 ⟨rfl, hb⟩; refine ⟨_, rfl, ?_⟩; have n0_ := Aside0.mk (Kd.R_below (by (with_reducible repeat (first | apply Kd.R_alloc | apply Kd.R_drewN | apply Kd.R_drew)); exact HO113.out) hb); have n1_ := Aside0.mk (blk_below (g := gb101) (o := .cells #[.bool a0_0, .int .u8 a0_1, .int .u8 a0_2, .int .u8 a0_3, .int .u8 a0_4, .int .i64 a0_5, .string a0_6, .int .i64 a0_7, .int .i64 a0_8] 33 (0, 0)) (by (with_reducible repeat (first | refine blk_drewN ?_ _ | refine blk_drew ?_ | refine blk_alloc ?_ _)); exact BK101.out) hb); have n2_ := Aside0.mk (below_step (by repeat (first | (with_reducible first | exact HB.out | apply below_alloc | apply pw_below_drewN | apply below_drew1 | refine below_set ?_ GE101.out) | exact HB.out)) hb); clear HO113; clear BK101; clear HB; have HO113 := n0_; have BK101 := n1_; have HB := n2_; clear n0_ n1_ n2_; (try clear hb); (try clear hb2); (try clear hk); (try clear hi)))
              go_ret2
              exact ⟨by first | rfl | (simp [errW_none, errW_some] <;> rfl) | (simp [*, errW_none, errW_some] <;> rfl), by repeat (first | (with_reducible first | exact HB.out | apply below_alloc | apply pw_below_drewN | apply below_drew1 | refine below_set ?_ GE101.out) | exact HB.out)⟩
  · replace c3 := Bool.eq_false_iff.mpr c3
    subst c3
    have H1 : (some ((⟨#[]⟩ : ByteArray), 120)) = some (r1, r2) := by rw [if_neg (show ¬ (false = true) by decide)] at H; exact H
    clear H
    have H := H1
    clear H1
    simp only [Option.some.injEq, Prod.mk.injEq] at H
    obtain ⟨rfl, rfl⟩ := H
    go_enter Tryd.func10, Tryd.ntmps10
    go_wp2_with (first | ((with_reducible refine gate_dst (N := 1) rfl ?_); refine box_event ?hg (N := 1) ?hd (cs := #[.bool a0_0, .int .u8 a0_1, .int .u8 a0_2, .int .u8 a0_3, .int .u8 a0_4, .int .i64 a0_5, .string a0_6, .int .i64 a0_7, .int .i64 a0_8]) (t := 33) ?hr ?_; (case hd => rfl); (case hg => rfl); (case hr => first | (go_simp; done) | (go_simp; rfl)); intro gb101 hg w39 hbox hb; have n0_ := Aside0.mk (below_step (by repeat (first | (with_reducible first | exact HB.out | apply below_alloc | apply pw_below_drewN | apply below_drew1) | exact HB.out)) hb); have n1_ := Aside0.mk (hbox); have n2_ := Aside0.mk ((by rw [hg]; exact (below_size (by repeat (first | (with_reducible first | exact HB.out | apply below_alloc | apply pw_below_drewN | apply below_drew1) | exact HB.out))) : w.heap.size ≤ gb101)); have n3_ := Aside0.mk ((by rw [hg]; exact (below_size (by repeat (first | (with_reducible first | exact HB.out | apply below_alloc | apply pw_below_drewN | apply below_drew1) | exact HB.out))) : w.heap.size ≤ gb101)); clear HB; have HB := n0_; have BK101 := n1_; have GW101 := n2_; have GE101 := n3_; clear n0_ n1_ n2_ n3_; clear hb hbox hg; have hcz40_0 : w39.cell? ⟨gb101, 0, none⟩ = some (.bool a0_0) := (blk_cell BK101.out 0).trans rfl; have hcz40_1 : w39.cell? ⟨gb101, 1, none⟩ = some (.int .u8 a0_1) := (blk_cell BK101.out 1).trans rfl; have hcz40_2 : w39.cell? ⟨gb101, 2, none⟩ = some (.int .u8 a0_2) := (blk_cell BK101.out 2).trans rfl; have hcz40_3 : w39.cell? ⟨gb101, 3, none⟩ = some (.int .u8 a0_3) := (blk_cell BK101.out 3).trans rfl; have hcz40_4 : w39.cell? ⟨gb101, 4, none⟩ = some (.int .u8 a0_4) := (blk_cell BK101.out 4).trans rfl; have hcz40_5 : w39.cell? ⟨gb101, 5, none⟩ = some (.int .i64 a0_5) := (blk_cell BK101.out 5).trans rfl; have hcz40_6 : w39.cell? ⟨gb101, 6, none⟩ = some (.string a0_6) := (blk_cell BK101.out 6).trans rfl; have hcz40_7 : w39.cell? ⟨gb101, 7, none⟩ = some (.int .i64 a0_7) := (blk_cell BK101.out 7).trans rfl; have hcz40_8 : w39.cell? ⟨gb101, 8, none⟩ = some (.int .i64 a0_8) := (blk_cell BK101.out 8).trans rfl; have hfz40_0 := blk_frozen BK101.out 0; have hfz40_1 := blk_frozen BK101.out 1; have hfz40_2 := blk_frozen BK101.out 2; have hfz40_3 := blk_frozen BK101.out 3; have hfz40_4 := blk_frozen BK101.out 4; have hfz40_5 := blk_frozen BK101.out 5; have hfz40_6 := blk_frozen BK101.out 6; have hfz40_7 := blk_frozen BK101.out 7; have hfz40_8 := blk_frozen BK101.out 8) | ((with_reducible refine gate_callee (f := 18) rfl ?_); refine goesL_ (some 8) rfl rfl Tryd.func18 (by kernel_rfl) rfl #[.agg #[.bool a0_0, .int .u8 a0_1, .int .u8 a0_2, .int .u8 a0_3, .int .u8 a0_4, .int .i64 a0_5, .string a0_6, .int .i64 a0_7, .int .i64 a0_8]] rfl (by (try simp only [List.map_toArray, List.map_cons, List.map_nil]); first | done | rfl | (simp only [List.length_drop, List.length_take]; rfl)) ?_; (with_reducible refine (XC.policy_right.calls k a0_0 a0_1 a0_2 a0_3 a0_4 a0_5 a0_6 a0_7 a0_8 false _ ?side1 A2.out).mono ?_); (case side1 => exact StdW.below HS_.out (by repeat (first | (with_reducible first | exact HB.out | apply below_alloc | apply pw_below_drewN | apply below_drew1 | refine below_set ?_ GE101.out) | exact HB.out))); rintro e w41 ⟨rfl, hb⟩; refine ⟨_, rfl, ?_⟩; have n0_ := Aside0.mk (blk_below (g := gb101) (o := .cells #[.bool a0_0, .int .u8 a0_1, .int .u8 a0_2, .int .u8 a0_3, .int .u8 a0_4, .int .i64 a0_5, .string a0_6, .int .i64 a0_7, .int .i64 a0_8] 33 (0, 0)) (by (with_reducible repeat (first | refine blk_drewN ?_ _ | refine blk_drew ?_ | refine blk_alloc ?_ _)); exact BK101.out) hb); have n1_ := Aside0.mk (below_step (by repeat (first | (with_reducible first | exact HB.out | apply below_alloc | apply pw_below_drewN | apply below_drew1 | refine below_set ?_ GE101.out) | exact HB.out)) hb); clear BK101; clear HB; have BK101 := n0_; have HB := n1_; clear n0_ n1_; (try clear hb); (try clear hb2); (try clear hk); (try clear hi)))
    go_ret2
    exact ⟨by first | rfl | (simp [errW_none, errW_some] <;> rfl) | (simp [*, errW_none, errW_some] <;> rfl), by repeat (first | (with_reducible first | exact HB.out | apply below_alloc | apply pw_below_drewN | apply below_drew1 | refine below_set ?_ GE101.out) | exact HB.out)⟩
end Go.Proofs.YteondnhokgmakaaDoor.XB
