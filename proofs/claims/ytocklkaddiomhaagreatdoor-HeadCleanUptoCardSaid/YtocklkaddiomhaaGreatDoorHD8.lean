/- What the cards of this seat rest on: the walks and plain laws, part 8. -/
import Derived.Test.YtocklkaddiomhaaGreatDoorHD4
import Derived.Test.YtocklkaddiomhaaGreatDoorHD7
import Derived.RegionTactic
import Derived.BigRegion
import Derived.ChangeAlike
import Derived.Deep.QuietTactic
import Derived.BigQuiet
import Derived.Test.YtocklkaddiomhaaGreatDoorHD1
import Derived.Deep.RegionWith
import Derived.IntWalk
import Derived.Lib.LastIndexByte


namespace Go.Proofs.YtocklkaddiomhaaGreatDoor.E
open Go.RowKit Go.Proofs.YtocklkaddiomhaaGreatDoorW.PrintWords Go.Proofs.YtocklkaddiomhaaGreatDoorW.PrintLast
set_option linter.unusedVariables false
set_option linter.unusedSimpArgs false
def bad (k : Int) (l0 l1 : ByteArray) (a0 a1 c : Int) : Array Value := #[.int .i64 k, .string l0, .string l1, .string ⟨#[]⟩, .string ⟨#[]⟩, .int .i64 a0, .int .i64 a1, .int .i64 0, .int .i64 0, .int .i64 c]
set_option maxRecDepth 100000 in
set_option maxHeartbeats 8000000 in
theorem of_one (v : Value) (l : ByteArray) (a c : Int) (w : World) (h : ErrIs w v [(l, a)] c) :
    Calls Tryz.prog 41 #[v] w fun e w' => e = .returned (.tuple #[.agg (bad 1 l ⟨#[]⟩ a 0 c), .bool true]) ∧ Below w.heap.size w w' := by
  obtain ⟨b, u, rfl, h0, h1, h2, hu⟩ := h
  obtain rfl : u = .iface 45 (.int .i64 c) := hu
  have hbl : b < w.heap.size := World.block_lt_of_cell? _ _ h0
  have ta0 : ∀ (x : Value) (W : World), (Instr.typeAssert (.iface 116 x) 25 45 true).run Tryz.prog W = .ok (.tuple #[.int .i64 0, .bool false]) W := fun x W => by kernel_rfl
  have ta1 : ∀ (x : Value) (W : World), (Instr.typeAssert (.iface 116 x) 25 116 true).run Tryz.prog W = .ok (.tuple #[x, .bool true]) W := fun x W => by kernel_rfl
  have ta2 : ∀ (x : Value) (W : World), (Instr.typeAssert (.iface 45 x) 25 45 true).run Tryz.prog W = .ok (.tuple #[x, .bool true]) W := fun x W => by kernel_rfl
  go_enter Tryz.func41, Tryz.ntmps41
  go_wp2
  refine wp_loop_rounds 2 ?_
  rw [rounds_succ]
  go_wp2
  go_region
  go_wp2
  rw [rounds_succ]
  go_wp2
  go_region
  go_wp2
  unfold bad
  refine bodyPost_ret (v := .tuple #[.agg #[.int .i64 1, .string l, .string ⟨#[]⟩, .string ⟨#[]⟩, .string ⟨#[]⟩, .int .i64 a, .int .i64 0, .int .i64 0, .int .i64 0, .int .i64 c], .bool true]) (by simp [results, Tryz.results41, go_sem]) rfl ⟨rfl, ?_⟩
  repeat (first | exact Below.refl _ _ | apply below_drew1 | apply below_alloc)
set_option maxRecDepth 100000 in
set_option maxHeartbeats 8000000 in
theorem of_two (v : Value) (l l' : ByteArray) (a a' c : Int) (w : World) (h : ErrIs w v [(l, a), (l', a')] c) :
    Calls Tryz.prog 41 #[v] w fun e w' => e = .returned (.tuple #[.agg (bad 2 l l' a a' c), .bool true]) ∧ Below w.heap.size w w' := by
  obtain ⟨b, u, rfl, h0, h1, h2, hu⟩ := h
  obtain ⟨b', u', rfl, h0', h1', h2', hu'⟩ := hu
  obtain rfl : u' = .iface 45 (.int .i64 c) := hu'
  have hbl : b < w.heap.size := World.block_lt_of_cell? _ _ h0
  have hbl' : b' < w.heap.size := World.block_lt_of_cell? _ _ h0'
  have ta0 : ∀ (x : Value) (W : World), (Instr.typeAssert (.iface 116 x) 25 45 true).run Tryz.prog W = .ok (.tuple #[.int .i64 0, .bool false]) W := fun x W => by kernel_rfl
  have ta1 : ∀ (x : Value) (W : World), (Instr.typeAssert (.iface 116 x) 25 116 true).run Tryz.prog W = .ok (.tuple #[x, .bool true]) W := fun x W => by kernel_rfl
  have ta2 : ∀ (x : Value) (W : World), (Instr.typeAssert (.iface 45 x) 25 45 true).run Tryz.prog W = .ok (.tuple #[x, .bool true]) W := fun x W => by kernel_rfl
  go_enter Tryz.func41, Tryz.ntmps41
  go_wp2
  refine wp_loop_rounds 3 ?_
  rw [rounds_succ]
  go_wp2
  go_region
  go_wp2
  rw [rounds_succ]
  go_wp2
  go_region
  go_wp2
  rw [rounds_succ]
  go_wp2
  go_region
  go_wp2
  unfold bad
  refine bodyPost_ret (v := .tuple #[.agg #[.int .i64 2, .string l, .string l', .string ⟨#[]⟩, .string ⟨#[]⟩, .int .i64 a, .int .i64 a', .int .i64 0, .int .i64 0, .int .i64 c], .bool true]) (by simp [results, Tryz.results41, go_sem]) rfl ⟨rfl, ?_⟩
  repeat (first | exact Below.refl _ _ | apply below_drew1 | apply below_alloc)
set_option maxRecDepth 100000 in
set_option maxHeartbeats 8000000 in
theorem wrap_one (l l' : ByteArray) (a a' c : Int) (w : World) :
    Calls Tryz.prog 30 #[.string l, .int .i64 a, .agg (bad 1 l' ⟨#[]⟩ a' 0 c)] w fun e w' => e = .returned (.agg (bad 2 l l' a a' c)) ∧ Below w.heap.size w w' := by
  unfold bad
  go_enter Tryz.func30, Tryz.ntmps30
  go_wp2
  refine wp_loop_rounds 2 ?_
  rw [rounds_succ]
  go_wp2
  go_region
  go_wp2
  rw [rounds_succ]
  go_wp2
  refine bodyPost_ret (v := .agg #[.int .i64 2, .string l, .string l', .string ⟨#[]⟩, .string ⟨#[]⟩, .int .i64 a, .int .i64 a', .int .i64 0, .int .i64 0, .int .i64 c]) (by simp [results, Tryz.results30, go_sem]) rfl ⟨rfl, ?_⟩
  repeat (first | exact Below.refl _ _ | apply below_drew1 | apply below_alloc)
set_option maxRecDepth 100000 in
set_option maxHeartbeats 8000000 in
theorem is_same (v : Value) (k : Int) (l0 l1 : ByteArray) (a0 a1 c : Int)
    (H1 : ∀ W : World, (Op.equalIn 9999 43 (.agg #[.string l0, .string l1, .string ⟨#[]⟩, .string ⟨#[]⟩]) (.agg #[.string l0, .string l1, .string ⟨#[]⟩, .string ⟨#[]⟩])).run Tryz.prog W = .ok true W)
    (H2 : ∀ W : World, (Op.equalIn 9999 44 (.agg #[.int .i64 a0, .int .i64 a1, .int .i64 0, .int .i64 0]) (.agg #[.int .i64 a0, .int .i64 a1, .int .i64 0, .int .i64 0])).run Tryz.prog W = .ok true W) (w : World)
    (HO : ∀ W, Below w.heap.size w W → Calls Tryz.prog 41 #[v] W fun e w' => e = .returned (.tuple #[.agg (bad k l0 l1 a0 a1 c), .bool true]) ∧ Below W.heap.size W w') :
    Calls Tryz.prog 13 #[v, .agg (bad k l0 l1 a0 a1 c)] w fun e w' => e = .returned (.bool true) ∧ Below w.heap.size w w' := by
  have XO := Lib.hid HO
  clear HO
  unfold bad at *
  go_enter Tryz.func13, Tryz.ntmps13
  go_wp2_with (go_at_call 41; refine (XO.out _ (below_alloc (Below.refl _ _) _)).mono ?_; rintro e w1 ⟨rfl, hb⟩; have c0 := boxCell hb 0 (.int .i64 k) rfl; have c1 := boxCell hb 1 (.string l0) rfl; have c2 := boxCell hb 2 (.string l1) rfl; have c3 := boxCell hb 3 (.string ⟨#[]⟩) rfl; have c4 := boxCell hb 4 (.string ⟨#[]⟩) rfl; have c5 := boxCell hb 5 (.int .i64 a0) rfl; have c6 := boxCell hb 6 (.int .i64 a1) rfl; have c7 := boxCell hb 7 (.int .i64 0) rfl; have c8 := boxCell hb 8 (.int .i64 0) rfl; have c9 := boxCell hb 9 (.int .i64 c) rfl; have hlt : w.heap.size < w1.heap.size := (by have := hb.size; simp at this; omega); have HB := Lib.hid (below_then (below_alloc (Below.refl w.heap.size w) _) (below_alloc (Below.refl w.heap.size w) _).size hb); clear hb)
  go_ret
  exact ⟨rfl, below_alloc HB.out _⟩
end Go.Proofs.YtocklkaddiomhaaGreatDoor.E


namespace Go.Proofs.YtocklkaddiomhaaGreatDoor
open Go.RowKit Go.Proofs.YtocklkaddiomhaaGreatDoorW.PrintWords Go.Proofs.YtocklkaddiomhaaGreatDoorW.PrintLast Go.Proofs.YtocklkaddiomhaaGreatDoor.E
set_option linter.unusedVariables false
set_option linter.unusedSimpArgs false
structure StdE (w : World) : Prop where
  std : StdW w
  et : EtW w
theorem StdE.below {w w' : World} (h : StdE w) (hb : Below w.heap.size w w') : StdE w' := ⟨StdW.below h.std hb, EtW.below h.et hb⟩
end Go.Proofs.YtocklkaddiomhaaGreatDoor


namespace Go.Proofs.YtocklkaddiomhaaGreatDoor.E
def DestT : Type := Int × Int × Int × Int × ByteArray × Int
end Go.Proofs.YtocklkaddiomhaaGreatDoor.E


namespace Go.Proofs.YtocklkaddiomhaaGreatDoor.E
open Go.RowKit Go.Proofs.YtocklkaddiomhaaGreatDoorW.PrintWords Go.Proofs.YtocklkaddiomhaaGreatDoorW.PrintLast Go.Proofs.YtocklkaddiomhaaGreatDoor.XD
set_option linter.unusedVariables false
set_option linter.unusedSimpArgs false
theorem lastIx' (s : ByteArray) (hs : s.size ≤ 281474976710656) (W : World) : Calls Tryz.prog 105 #[.string s, .int .u8 58] W fun e w' => e = .returned (.int .i64 (Lib.lastIndexByte s 58)) ∧ Below W.heap.size W w' :=
  (Tryz.strings_LastIndexByte s 58 (by omega) W).mono (fun e w' ⟨he, hw⟩ => ⟨he, hw ▸ Below.refl _ _⟩)
def pdX (s : ByteArray) : (Int × List (ByteArray × Int) × Int) ⊕ DestT :=
  if 259 < s.size then .inl (259, [], 3) else if Lib.lastIndexByte s 58 < 0 then .inl ((s.size : Int), [], 62) else
    match hpRes (s.extract 0 (Lib.lastIndexByte s 58).toNat) with
    | .inl (a, c) => .inl (a, [], c)
    | .inr (l, n) => match ppoRes (s.extract ((Lib.lastIndexByte s 58).toNat + 1) s.size) with
      | none => .inl (((Lib.lastIndexByte s 58).toNat : Int) + 1, [(hostS, 0)], 62)
      | some p => .inr (l.getD 0 0, l.getD 1 0, l.getD 2 0, l.getD 3 0, n, p)
def PDXPost (r : (Int × List (ByteArray × Int) × Int) ⊕ DestT) (w : World) (e : Ending) (w' : World) : Prop :=
  Below w.heap.size w w' ∧ match r with
    | .inl (a, ch, c) => ∃ v, e = .returned (.tuple #[zDest, v]) ∧ ErrIs w' v ((hostS, a) :: ch) c
    | .inr (a, b, c, d, n, po) => e = .returned (.tuple #[.agg (dC a b c d n po), .nilIface])
theorem pdX_any (s : ByteArray) (hs : s.size ≤ 281474976710656) (w : World) (hS : StdE w) : Calls Tryz.prog 73 #[.string s] w (PDXPost (pdX s) w) := by
  unfold pdX
  by_cases h1 : 259 < s.size
  · rw [if_pos h1]
    exact (pdest_long s h1 hs w).mono fun e w' ⟨v, he, hi, hb⟩ => ⟨hb, v, he, hi⟩
  rw [if_neg h1]
  have HL := fun W (_ : StdW W) => lastIx' s hs W
  by_cases h2 : Lib.lastIndexByte s 58 < 0
  · rw [if_pos h2]
    exact (pdest_none s (by omega) _ h2 HL w hS.std).mono fun e w' ⟨v, he, hi, hb⟩ => ⟨hb, v, he, hi⟩
  rw [if_neg h2]
  have hlt : ∃ i : Nat, i < s.size ∧ Lib.lastIndexByte s 58 = (i : Int) := by
    rcases Lib.lastIndexByte_spec s 58 with ⟨e, _⟩ | ⟨i, hi, e, _⟩
    · rw [e] at h2; exact absurd (by decide) h2
    · exact ⟨i, hi, e⟩
  obtain ⟨i, hlt, hi⟩ := hlt
  rw [hi] at HL
  rw [hi, Int.toNat_natCast]
  have z1 : (s.extract 0 i).size ≤ 281474976710656 := by rw [ByteArray.size_extract]; omega
  have z2 : (s.extract (i + 1) s.size).size ≤ 281474976710656 := by rw [ByteArray.size_extract]; omega
  cases hr : hpRes (s.extract 0 i) with
  | inl x =>
    obtain ⟨a, c⟩ := x
    exact (pdest_host s (by omega) i hlt [(hostS, a)] c HL (fun W h => by
      have h := hparse_any (s.extract 0 i) z1 W h
      rw [hr] at h
      exact h.mono (fun e w' ⟨hb, v, he, hi⟩ => ⟨v, he, hi, hb⟩)) w hS.std).mono fun e w' ⟨v, he, hi, hb⟩ => ⟨hb, v, he, hi⟩
  | inr x =>
    obtain ⟨l, n⟩ := x
    have HP : ∀ W, StdW W → Calls Tryz.prog 77 #[.string (s.extract 0 i)] W fun e w' => e = .returned (.tuple #[.agg #[.int .u8 (l.getD 0 0), .int .u8 (l.getD 1 0), .int .u8 (l.getD 2 0), .int .u8 (l.getD 3 0), .string n], .nilIface]) ∧ Below W.heap.size W w' := fun W h => by
      have h := hparse_any (s.extract 0 i) z1 W h
      rw [hr] at h
      exact h.mono (fun e w' ⟨hb, he⟩ => ⟨he, hb⟩)
    cases hp : ppoRes (s.extract (i + 1) s.size) with
    | none =>
      exact (pdest_port s (by omega) i hlt _ _ _ _ n 62 HL HP (fun W h => by
        have h := hport_any (s.extract (i + 1) s.size) z2 W h
        rw [hp] at h
        exact h.mono (fun e w' ⟨hb, v, he, hi⟩ => ⟨v, he, hi, hb⟩)) w hS.std hS.et).mono fun e w' ⟨v, he, hi, hb⟩ => ⟨hb, v, he, hi⟩
    | some po =>
      exact (pdest_ok s (by omega) i hlt _ _ _ _ n po HL HP (fun W h => by
        have h := hport_any (s.extract (i + 1) s.size) z2 W h
        rw [hp] at h
        exact h.mono (fun e w' ⟨hb, he⟩ => ⟨he, hb⟩)) w hS.std).mono fun e w' ⟨he, hb⟩ => ⟨hb, he⟩
def placeR (place path : ByteArray) (p : Int) : (Int × List (ByteArray × Int) × Int) ⊕ (DestT × ByteArray) :=
  if Lib.contains place.data.toList [58] then (match pdX place with
    | .inl (a, r, c) => .inl (p + 7, (hostS, a) :: r, c)
    | .inr d => .inr (d, path))
  else match hpRes place with
    | .inl (a, c) => .inl (p + 7, [(hostS, a)], c)
    | .inr (l, n) => .inr ((l.getD 0 0, l.getD 1 0, l.getD 2 0, l.getD 3 0, n, 80), path)
def restS (s : ByteArray) : ByteArray := ⟨(Lib.trimPrefix s.data.toList [104, 116, 116, 112, 58, 47, 47]).toArray⟩
def targetR (m s : ByteArray) (p : Int) : (Int × List (ByteArray × Int) × Int) ⊕ (DestT × ByteArray) :=
  if m.data.toList = [67, 79, 78, 78, 69, 67, 84] then (match pdX s with
    | .inl (a, r, c) => .inl (p, (hostS, a) :: r, c)
    | .inr d => .inr (d, ⟨#[]⟩))
  else if !Lib.hasPrefix s.data.toList [104, 116, 116, 112, 58, 47, 47] || ((Lib.cut (restS s).data.toList [47]).2.2 && !Hd.plain (47 :: (Lib.cut (restS s).data.toList [47]).2.1) 33 2048) then .inl (p, [], 82)
  else placeR ⟨(Lib.cut (restS s).data.toList [47]).1.toArray⟩ ⟨(47 :: (Lib.cut (restS s).data.toList [47]).2.1).toArray⟩ p
def TgtPost (r : (Int × List (ByteArray × Int) × Int) ⊕ (DestT × ByteArray)) (w : World) (e : Ending) (w' : World) : Prop :=
  Below w.heap.size w w' ∧ match r with
    | .inl (a, ch, c) => ∃ x y z u n po q v, e = .returned (.tuple #[.agg (dC x y z u n po), .string q, v]) ∧ ErrIs w' v ((headS, a) :: ch) c
    | .inr ((x, y, z, u, n, po), q) => e = .returned (.tuple #[.agg (dC x y z u n po), .string q, .nilIface])
def EOr (o : Option (List (ByteArray × Int) × Int)) (w : World) (v : Value) : Prop := match o with
  | none => v = .nilIface
  | some (r, c) => ErrIs w v r c
theorem EOr.below {o : Option (List (ByteArray × Int) × Int)} {w w' : World} {v : Value} (h : EOr o w v) (hb : Below w.heap.size w w') : EOr o w' v := by
  cases o with
  | none => exact h
  | some x => exact ErrIs.below hb h
theorem ErrIs.set {w : World} {R j : Nat} {u : Value} {k : IntKind} {x : Int} (hR : w.cell? ⟨R, 0, none⟩ = some (.int k x)) : ∀ {v : Value} {r : List (ByteArray × Int)} {c : Int}, ErrIs w v r c → ErrIs (w.setCell ⟨R, j, none⟩ u) v r c
  | _, [], _, h => h
  | _, (l, a) :: r, c, h => by
    obtain ⟨b, y, e, h0, h1, h2, hr⟩ := h
    have hne : b ≠ R := fun e => by subst e; rw [hR] at h0; cases h0
    have hk : ∀ i, (w.setCell ⟨R, j, none⟩ u).cell? ⟨b, i, none⟩ = w.cell? ⟨b, i, none⟩ := fun i => World.cell?_of_block (Below.heap_setCell w ⟨R, j, none⟩ u b hne)
    exact ⟨b, y, e, (hk 0).trans h0, (hk 1).trans h1, (hk 2).trans h2, ErrIs.set hR hr⟩
theorem EOr.set {o : Option (List (ByteArray × Int) × Int)} {w : World} {R j : Nat} {v u : Value} {C : Array Value} {T : TypeId} {k : IntKind} {x : Int} (hb : Blk w R C T) (h0 : C[0]? = some (.int k x)) (h : EOr o w v) : EOr o (w.setCell ⟨R, j, none⟩ u) v := by
  cases o with
  | none => exact h
  | some y => exact ErrIs.set (hb.cell 0 _ h0) h
theorem EOr.put6 {o : Option (List (ByteArray × Int) × Int)} {w : World} {R : Nat} {v : Value} {a b c d a' b' c' d' : Int} {n n' : ByteArray} {po po' : Int} {T : TypeId} (hb : Blk w R (dC a' b' c' d' n' po') T) (h : EOr o w v) :
    EOr o ((((((w.setCell ⟨R, 0, none⟩ (.int .u8 a)).setCell ⟨R, 1, none⟩ (.int .u8 b)).setCell ⟨R, 2, none⟩ (.int .u8 c)).setCell ⟨R, 3, none⟩ (.int .u8 d)).setCell ⟨R, 4, none⟩ (.string n)).setCell ⟨R, 5, none⟩ (.int .i64 po)) v :=
  EOr.set (((((hb.set 0 (.int .u8 a)).set 1 (.int .u8 b)).set 2 (.int .u8 c)).set 3 (.int .u8 d)).set 4 (.string n)) rfl (EOr.set ((((hb.set 0 (.int .u8 a)).set 1 (.int .u8 b)).set 2 (.int .u8 c)).set 3 (.int .u8 d)) rfl (EOr.set (((hb.set 0 (.int .u8 a)).set 1 (.int .u8 b)).set 2 (.int .u8 c)) rfl (EOr.set ((hb.set 0 (.int .u8 a)).set 1 (.int .u8 b)) rfl (EOr.set (hb.set 0 (.int .u8 a)) rfl (EOr.set hb rfl h)))))
def insO (p : Int) : Option (List (ByteArray × Int) × Int) → Option (List (ByteArray × Int) × Int)
  | none => none
  | some (r, c) => some ((headS, p) :: r, c)
theorem inside_any (o : Option (List (ByteArray × Int) × Int)) (ho : ∀ r c, o = some (r, c) → r ≠ []) (p : Int) (er : Value) (w : World) (hG : EtW w) (h : EOr o w er) :
    Calls Tryz.prog 74 #[.int .i64 p, er] w fun e w' => ∃ v, e = .returned v ∧ EOr (insO p o) w' v ∧ Below w.heap.size w w' := by
  cases o with
  | none =>
    obtain rfl : er = .nilIface := h
    exact (inside_nil p w).mono fun e w' ⟨he, hb⟩ => ⟨_, he, rfl, hb⟩
  | some x =>
    obtain ⟨r, c⟩ := x
    cases r with
    | nil => exact absurd rfl (ho [] c rfl)
    | cons y r =>
      obtain ⟨l, a⟩ := y
      exact inside_err p er l a r c w hG h
theorem tgt_res (A : Array Value) (W : World) (R : Nat) (q : ByteArray) (v : Value) (T : TypeId) {a b c d : Int} {n : ByteArray} {po : Int} (h6 : A.getD 6 undef = .pointer (some ⟨R, 0, none⟩)) (h7 : A.getD 7 undef = .string q) (h8 : A.getD 8 undef = v) (hB : Blk W R (dC a b c d n po) T) :
    (results Tryz.f39 A).run Tryz.prog W = .ok (.tuple #[.agg #[.int .u8 a, .int .u8 b, .int .u8 c, .int .u8 d, .string n, .int .i64 po], .string q, v]) W := by
  obtain ⟨e0, e1, e2, e3, e4, e5, -⟩ := hB.dix
  rw [Array.getD_eq_getD_getElem?] at h6 h7 h8
  simp [results, Tryz.results39, go_sem, h6, h7, h8, e0, e1, e2, e3, e4, e5]
set_option maxRecDepth 100000 in
set_option maxHeartbeats 40000000 in
theorem tgt_conn (m s : ByteArray) (hm : (m.toList == [67, 79, 78, 78, 69, 67, 84]) = true) (p : Int) (a b c d : Int) (n : ByteArray) (po : Int) (o o' : Option (List (ByteArray × Int) × Int)) (w : World) (hS : EtW w)
    (HP0 : ∀ W, Below w.heap.size w W → Calls Tryz.prog 73 #[.string s] W fun e w' => ∃ er, e = .returned (.tuple #[.agg (dC a b c d n po), er]) ∧ EOr o w' er ∧ Below W.heap.size W w')
    (HI0 : ∀ W er, Below w.heap.size w W → EOr o W er → Calls Tryz.prog 74 #[.int .i64 p, er] W fun e w' => ∃ v, e = .returned v ∧ EOr o' w' v ∧ Below W.heap.size W w') :
    Calls Tryz.prog 39 #[.string m, .string s, .int .i64 p] w fun e w' => ∃ v, e = .returned (.tuple #[.agg (dC a b c d n po), .string ⟨#[]⟩, v]) ∧ EOr o' w' v ∧ Below w.heap.size w w' := by
  have HP := Lib.hid HP0
  have HI := Lib.hid HI0
  have HZ := Lib.hid (Blk.new w (dC 0 0 0 0 ⟨#[]⟩ 0) 33)
  have HB := Lib.hid (below_alloc (Below.refl w.heap.size w) (.cells (dC 0 0 0 0 ⟨#[]⟩ 0) 33))
  clear HP0 HI0
  go_enter Tryz.func39, Tryz.ntmps39
  unfold dC at *
  go_wp2_with (first | (go_at_call 73; refine (HP.out _ HB.out).mono ?_; rintro e w2 ⟨er, rfl, he, hb2⟩; have HE2 := Lib.hid he; have HZ2 := Lib.hid (HZ.out.below hb2); have HB2 := Lib.hid (below_then HB.out HB.out.size hb2); clear he hb2))
  go_region_with (first | (go_at_call 74; refine (HI.out _ _ (below_drew1 (below_alloc HB2.out _)) (EOr.below HE2.out (below_drew1 (below_alloc (Below.refl _ _) _)))).mono ?_; rintro e w3 ⟨v, rfl, he3, hbd⟩; have hb3 := below_of_drew hbd; have HE3 := Lib.hid he3; have HB3 := Lib.hid (below_then (below_alloc HB2.out _) (below_alloc HB2.out _).size hb3); have HZ3 := Lib.hid ((HZ2.out.old _).below hb3); have HD3 := Lib.hid ((Blk.new w2 (dC a b c d n po) 33).below hb3); obtain ⟨z0, z1, z2, z3, z4, z5, f0, f1, f2, f3, f4, f5⟩ := Blk.dix HZ3.out; obtain ⟨g0, g1, g2, g3, g4, g5, -⟩ := Blk.dix HD3.out; clear he3 hbd hb3))
  all_goals
    go_wp2
    refine bodyPost_ret (v := .tuple #[.agg #[.int .u8 a, .int .u8 b, .int .u8 c, .int .u8 d, .string n, .int .i64 po], .string ⟨#[]⟩, v]) ?_ rfl ⟨v, rfl, EOr.put6 HZ3.out HE3.out, ?_⟩
    · exact tgt_res _ _ _ _ _ _ rfl rfl rfl (show Blk _ _ (dC a b c d n po) _ from ((((((HZ3.out.set 0 (.int .u8 a)).set 1 (.int .u8 b)).set 2 (.int .u8 c)).set 3 (.int .u8 d)).set 4 (.string n)).set 5 (.int .i64 po)))
    · exact (((((HB3.out.setCell (show w.heap.size ≤ w.heap.size from Nat.le_refl _) _).setCell (show w.heap.size ≤ w.heap.size from Nat.le_refl _) _).setCell (show w.heap.size ≤ w.heap.size from Nat.le_refl _) _).setCell (show w.heap.size ≤ w.heap.size from Nat.le_refl _) _).setCell (show w.heap.size ≤ w.heap.size from Nat.le_refl _) _).setCell (show w.heap.size ≤ w.heap.size from Nat.le_refl _) _
set_option maxRecDepth 100000 in
set_option maxHeartbeats 40000000 in
theorem tgt_bad (m s : ByteArray) (hm : (m.toList == [67, 79, 78, 78, 69, 67, 84]) = false) (p : Int) (rest place path0 : ByteArray) (ok slash wt : Bool) (hpz : path0.size ≤ 100000) (w : World)
    (HCP0 : ∀ W, Below w.heap.size w W → Calls Tryz.prog 75 #[.string s, .string ⟨#[104, 116, 116, 112, 58, 47, 47]⟩] W fun e w' => e = .returned (.tuple #[.string rest, .bool ok]) ∧ Below W.heap.size W w')
    (HC0 : ∀ W, Below w.heap.size w W → Calls Tryz.prog 70 #[.string rest, .string ⟨#[47]⟩] W fun e w' => e = .returned (.tuple #[.string place, .string path0, .bool slash]) ∧ Below W.heap.size W w')
    (HWI0 : ∀ W, Below w.heap.size w W → Calls Tryz.prog 47 #[.string ((⟨#[47]⟩ : ByteArray) ++ path0), .int .u8 33, .int .i64 2048] W fun e w' => e = .returned (.bool wt) ∧ Below W.heap.size W w') (hbad : (!ok || (slash && !wt)) = true) :
    Calls Tryz.prog 39 #[.string m, .string s, .int .i64 p] w fun e w' => ∃ v, e = .returned (.tuple #[zDest, .string ⟨#[]⟩, v]) ∧ ErrIs w' v [(headS, p)] 82 ∧ Below w.heap.size w w' := by
  have HCP := Lib.hid HCP0
  have HC := Lib.hid HC0
  have HWI := Lib.hid HWI0
  have HW := Lib.hid hdwrong_no
  have HZ := Lib.hid (Blk.new w (dC 0 0 0 0 ⟨#[]⟩ 0) 33)
  have HB := Lib.hid (below_alloc (Below.refl w.heap.size w) (.cells (dC 0 0 0 0 ⟨#[]⟩ 0) 33))
  clear HCP0 HC0 HWI0
  have h47 : (⟨#[47]⟩ : ByteArray).size = 1 := rfl
  have hcat : (⟨#[47]⟩ : ByteArray).size + path0.size ≤ 9223372036854775807 := by rw [h47]; omega
  unfold dC zDest at *
  cases ok
  · go_enter Tryz.func39, Tryz.ntmps39
    go_wp2_with (first | (go_at_call 75; refine (HCP.out _ HB.out).mono ?_; rintro e w2 ⟨rfl, hb2⟩; have HB2 := Lib.hid (below_then HB.out HB.out.size hb2); have HZ2 := Lib.hid (HZ.out.below hb2); clear hb2) | (go_at_call 70; refine (HC.out _ HB2.out).mono ?_; rintro e w3 ⟨rfl, hb3⟩; have HB3 := Lib.hid (below_then HB2.out HB2.out.size hb3); have HZ3 := Lib.hid (HZ2.out.below hb3); clear hb3; have HB4 := HB3; have HZ4 := HZ3) | (go_at_call 47; refine (HWI.out _ HB3.out).mono ?_; rintro e w4 ⟨rfl, hb4⟩; clear HB4 HZ4; have HB4 := Lib.hid (below_then HB3.out HB3.out.size hb4); have HZ4 := Lib.hid (HZ3.out.below hb4); clear hb4) | (go_at_call 33; refine (HW.out _ _ _).mono ?_; rintro e w5 ⟨v, rfl, he, hb5⟩; have HE5 := Lib.hid he; have HB5 := Lib.hid (below_then HB4.out HB4.out.size hb5); have HZ5 := Lib.hid (HZ4.out.below hb5); obtain ⟨z0, z1, z2, z3, z4, z5, f0, f1, f2, f3, f4, f5⟩ := Blk.dix HZ5.out; clear he hb5))
    refine bodyPost_ret (v := .tuple #[.agg #[.int .u8 0, .int .u8 0, .int .u8 0, .int .u8 0, .string ⟨#[]⟩, .int .i64 0], .string ⟨#[]⟩, v]) ?_ rfl ⟨v, rfl, (show EOr (some ([(headS, p)], 82)) _ v from EOr.put6 (o := some ([(headS, p)], 82)) HZ5.out HE5.out), ?_⟩
    · exact tgt_res _ _ _ _ _ _ rfl rfl rfl (show Blk _ _ (dC 0 0 0 0 ⟨#[]⟩ 0) _ from ((((((HZ5.out.set 0 (.int .u8 0)).set 1 (.int .u8 0)).set 2 (.int .u8 0)).set 3 (.int .u8 0)).set 4 (.string ⟨#[]⟩)).set 5 (.int .i64 0)))
    · exact (((((HB5.out.setCell (show w.heap.size ≤ w.heap.size from Nat.le_refl _) _).setCell (show w.heap.size ≤ w.heap.size from Nat.le_refl _) _).setCell (show w.heap.size ≤ w.heap.size from Nat.le_refl _) _).setCell (show w.heap.size ≤ w.heap.size from Nat.le_refl _) _).setCell (show w.heap.size ≤ w.heap.size from Nat.le_refl _) _).setCell (show w.heap.size ≤ w.heap.size from Nat.le_refl _) _
  · cases slash
    · cases hbad
    · cases wt
      · go_enter Tryz.func39, Tryz.ntmps39
        go_wp2_with (first | (go_at_call 75; refine (HCP.out _ HB.out).mono ?_; rintro e w2 ⟨rfl, hb2⟩; have HB2 := Lib.hid (below_then HB.out HB.out.size hb2); have HZ2 := Lib.hid (HZ.out.below hb2); clear hb2) | (go_at_call 70; refine (HC.out _ HB2.out).mono ?_; rintro e w3 ⟨rfl, hb3⟩; have HB3 := Lib.hid (below_then HB2.out HB2.out.size hb3); have HZ3 := Lib.hid (HZ2.out.below hb3); clear hb3; have HB4 := HB3; have HZ4 := HZ3) | (go_at_call 47; refine (HWI.out _ HB3.out).mono ?_; rintro e w4 ⟨rfl, hb4⟩; clear HB4 HZ4; have HB4 := Lib.hid (below_then HB3.out HB3.out.size hb4); have HZ4 := Lib.hid (HZ3.out.below hb4); clear hb4) | (go_at_call 33; refine (HW.out _ _ _).mono ?_; rintro e w5 ⟨v, rfl, he, hb5⟩; have HE5 := Lib.hid he; have HB5 := Lib.hid (below_then HB4.out HB4.out.size hb5); have HZ5 := Lib.hid (HZ4.out.below hb5); obtain ⟨z0, z1, z2, z3, z4, z5, f0, f1, f2, f3, f4, f5⟩ := Blk.dix HZ5.out; clear he hb5))
        refine bodyPost_ret (v := .tuple #[.agg #[.int .u8 0, .int .u8 0, .int .u8 0, .int .u8 0, .string ⟨#[]⟩, .int .i64 0], .string ⟨#[]⟩, v]) ?_ rfl ⟨v, rfl, (show EOr (some ([(headS, p)], 82)) _ v from EOr.put6 (o := some ([(headS, p)], 82)) HZ5.out HE5.out), ?_⟩
        · exact tgt_res _ _ _ _ _ _ rfl rfl rfl (show Blk _ _ (dC 0 0 0 0 ⟨#[]⟩ 0) _ from ((((((HZ5.out.set 0 (.int .u8 0)).set 1 (.int .u8 0)).set 2 (.int .u8 0)).set 3 (.int .u8 0)).set 4 (.string ⟨#[]⟩)).set 5 (.int .i64 0)))
        · exact (((((HB5.out.setCell (show w.heap.size ≤ w.heap.size from Nat.le_refl _) _).setCell (show w.heap.size ≤ w.heap.size from Nat.le_refl _) _).setCell (show w.heap.size ≤ w.heap.size from Nat.le_refl _) _).setCell (show w.heap.size ≤ w.heap.size from Nat.le_refl _) _).setCell (show w.heap.size ≤ w.heap.size from Nat.le_refl _) _).setCell (show w.heap.size ≤ w.heap.size from Nat.le_refl _) _
      · cases hbad
end Go.Proofs.YtocklkaddiomhaaGreatDoor.E
