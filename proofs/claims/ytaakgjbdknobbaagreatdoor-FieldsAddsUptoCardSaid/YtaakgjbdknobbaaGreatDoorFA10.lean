/- What the cards of this seat rest on: the walks and plain laws, part 10. -/
import Derived.Test.YtaakgjbdknobbaaGreatDoorFA9
import Derived.Test.YtaakgjbdknobbaaGreatDoorFA2
import Derived.Lib.SliceRun
import Derived.BigQuiet
import Derived.Test.YtaakgjbdknobbaaGreatDoorFA8
import Derived.Test.YtaakgjbdknobbaaGreatDoorFA3
import Derived.Test.YtaakgjbdknobbaaGreatDoorRows
import Derived.Deep.Slices
import Derived.Deep.Fields
import Derived.ChangeSame
import Derived.SizedLaws
import Derived.OpenShut
import Derived.Stop.LaidErr
import Derived.Lib.LaidTab
import Derived.Deep.DeepHandedRow
import Derived.Lay
import Derived.Stop.Joined
import Derived.JoinedOf


namespace Go.Proofs.YtaakgjbdknobbaaGreatDoor.E
open Go.RowKit Go.Proofs.YtaakgjbdknobbaaGreatDoorW.PrintWords Go.Proofs.YtaakgjbdknobbaaGreatDoorW.PrintLast Go.Proofs.YtaakgjbdknobbaaGreatDoor.XK Go.Proofs.YtaakgjbdknobbaaGreatDoor.XA Go.Proofs.YtaakgjbdknobbaaGreatDoor.XD Go.Proofs.YtaakgjbdknobbaaGreatDoor.XZ
set_option linter.unusedVariables false
set_option linter.unusedSimpArgs false
theorem find_loop (s sub : ByteArray) (hs : s.size ≤ 281474976710656) (hsub : sub.size ≤ 281474976710656) : ∀ (m k i : Nat), i + m = s.size + 1 → m < k → Lib.NoOcc s.data.toList sub.data.toList i → sallyportbase_Find.l0 k s sub (i : Int) = some (Lib.index s.data.toList sub.data.toList) := by
  have hl : s.data.toList.length = s.size := (Lib.size_eq s).symm
  have hl2 : sub.data.toList.length = sub.size := (Lib.size_eq sub).symm
  intro m
  induction m with
  | zero =>
    intro k i hi hk hn
    obtain ⟨k, rfl⟩ : ∃ j, k = j + 1 := ⟨k - 1, by omega⟩
    simp only [sallyportbase_Find.l0]
    rw [wrap64_id _ (by omega) (by omega), if_neg (by omega), Lib.index_none (fun j hj => hn j (by omega))]
  | succ m ih =>
    intro k i hi hk hn
    obtain ⟨k, rfl⟩ : ∃ j, k = j + 1 := ⟨k - 1, by omega⟩
    simp only [sallyportbase_Find.l0]
    rw [wrap64_id ((i : Int) + (sub.size : Int)) (by omega) (by omega)]
    by_cases hr : i + sub.size ≤ s.size
    · rw [if_pos (by omega), if_pos (by omega), if_pos (by omega)]
      have ho := Lib.occAt_iff_take s.data.toList sub.data.toList i (by omega)
      have he : (s.extract ((i : Int)).toNat (((i : Int) + (sub.size : Int))).toNat).toList = ((s.data.toList.drop i).take sub.data.toList.length) := by
        rw [ByteArray.toList_eq, ByteArray.data_extract, Array.toList_extract, show ((i : Int)).toNat = i by omega, show ((i : Int) + (sub.size : Int)).toNat = i + sub.size by omega, hl2]
        simp [List.extract]
      rw [he, ByteArray.toList_eq sub]
      by_cases hq : (s.data.toList.drop i).take sub.data.toList.length = sub.data.toList
      · rw [if_pos hq]
        rw [Lib.index_first (by omega) (by rw [ho, beq_iff_eq]; exact hq) (fun j hj => hn j hj)]
      · rw [if_neg hq, wrap64_id _ (by omega) (by omega)]
        have := ih k (i + 1) (by omega) (by omega) (fun j hj => by
          by_cases hji : j < i
          · exact hn j hji
          · have : j = i := by omega
            subst this
            rw [ho, beq_eq_false_iff_ne]; exact hq)
        exact this
    · rw [if_neg (by omega), Lib.index_none (fun j hj => by
        by_cases hji : j < i
        · exact hn j hji
        · cases hoc : Lib.occAt s.data.toList sub.data.toList j
          · rfl
          · rcases Lib.occAt_room hoc with h | h
            · omega
            · rw [h] at hl2
              have : sub.size = 0 := by simpa using hl2.symm
              omega)]
theorem find_f (s sub : ByteArray) (hs : s.size ≤ 281474976710656) (hsub : sub.size ≤ 281474976710656) (k : Nat) (hk : s.size + 1 < k) : sallyportbase_Find.f k s sub = some (Lib.index s.data.toList sub.data.toList) := by
  unfold sallyportbase_Find.f
  exact find_loop s sub hs hsub (s.size + 1) k 0 (by omega) hk (Lib.NoOcc.zero _ _)
theorem bt_at (s : ByteArray) (i : Nat) (h : i < s.data.toList.length) : bt s (i : Int) = ((s.data.toList[i]).toNat : Int) := by
  have hlt' : i < s.size := by rw [Lib.size_eq]; exact h
  first | (unfold bt; rw [Int.toNat_natCast, dif_pos hlt']; rfl) | (unfold bt; simp [hlt']; rfl)
theorem plain_loop (s : ByteArray) (hs : s.size ≤ 281474976710656) (least most : Nat) : ∀ (m k i : Nat), i + m = s.size → m < k → sallyportref08_plain.l0 k s (least : Int) (most : Int) (i : Int) = some ((s.data.toList.drop i).all (fun c => decide (least ≤ c.toNat) && decide (c.toNat ≤ 126)) && decide (s.data.toList.length ≤ most)) := by
  intro m
  induction m with
  | zero =>
    intro k i hi hk
    obtain ⟨k, rfl⟩ : ∃ j, k = j + 1 := ⟨k - 1, by omega⟩
    have hl : s.data.toList.length = s.size := (Lib.size_eq s).symm
    simp only [sallyportref08_plain.l0]
    rw [if_neg (by omega), List.drop_of_length_le (by omega), hl]
    simp only [List.all_nil, Bool.true_and]
    congr 1
    rw [Bool.eq_iff_iff, decide_eq_true_eq, decide_eq_true_eq]; omega
  | succ m ih =>
    intro k i hi hk
    obtain ⟨k, rfl⟩ : ∃ j, k = j + 1 := ⟨k - 1, by omega⟩
    have hl : s.data.toList.length = s.size := (Lib.size_eq s).symm
    have hlt : i < s.data.toList.length := by omega
    simp only [sallyportref08_plain.l0]
    rw [if_pos (by omega), if_pos (by omega), bt_at s i hlt, List.drop_eq_getElem_cons hlt, List.all_cons]
    generalize (s.data.toList[i]).toNat = c
    by_cases h1 : c < least
    · rw [if_pos (by omega), decide_eq_false (show ¬ least ≤ c by omega)]; rfl
    · by_cases h2 : 126 < c
      · rw [if_neg (by omega), if_pos (by omega), decide_eq_false (show ¬ c ≤ 126 by omega), Bool.and_false]; rfl
      · rw [if_neg (by omega), if_neg (by omega), wrap64_nat i s.size (by omega) hs, ih k (i + 1) (by omega) (by omega), decide_eq_true (show least ≤ c by omega), decide_eq_true (show c ≤ 126 by omega)]; rfl
theorem plain_f (s : ByteArray) (hs : s.size ≤ 281474976710656) (least most k : Nat) (hk : s.size < k) : sallyportref08_plain.f k s (least : Int) (most : Int) = some (Hd.plain s.data.toList least most) := by
  unfold sallyportref08_plain.f
  have := plain_loop s hs least most s.size k 0 (by omega) hk
  rw [List.drop_zero] at this
  exact this
end Go.Proofs.YtaakgjbdknobbaaGreatDoor.E


namespace Go.Proofs.YtaakgjbdknobbaaGreatDoor.E
open Go.RowKit Go.Proofs.YtaakgjbdknobbaaGreatDoorW.PrintWords Go.Proofs.YtaakgjbdknobbaaGreatDoorW.PrintLast Go.Proofs.YtaakgjbdknobbaaGreatDoor.XK Go.Proofs.YtaakgjbdknobbaaGreatDoor.XA Go.Proofs.YtaakgjbdknobbaaGreatDoor.XD Go.Proofs.YtaakgjbdknobbaaGreatDoor.XZ
set_option linter.unusedVariables false
set_option linter.unusedSimpArgs false
def signL : List UInt8 := [33, 35, 36, 37, 38, 39, 42, 43, 45, 46, 94, 95, 96, 124, 126]
theorem sign_iff (c : UInt8) : Fd.sign c = true ↔ ((97 ≤ c.toNat ∧ c.toNat ≤ 122) ∨ (65 ≤ c.toNat ∧ c.toNat ≤ 90) ∨ (48 ≤ c.toNat ∧ c.toNat ≤ 57) ∨ 0 ≤ Lib.index signL [c]) := by
  have hh : ∀ n : Fin 256, Fd.sign (UInt8.ofNat n.1) = true ↔ ((97 ≤ (UInt8.ofNat n.1).toNat ∧ (UInt8.ofNat n.1).toNat ≤ 122) ∨ (65 ≤ (UInt8.ofNat n.1).toNat ∧ (UInt8.ofNat n.1).toNat ≤ 90) ∨ (48 ≤ (UInt8.ofNat n.1).toNat ∧ (UInt8.ofNat n.1).toNat ≤ 57) ∨ 0 ≤ Lib.index signL [UInt8.ofNat n.1]) := by decide +kernel
  have := hh ⟨c.toNat, c.toNat_lt⟩
  simp only [UInt8.ofNat_toNat] at this
  exact this
theorem one_at (s : ByteArray) (i : Nat) (h : i < s.data.toList.length) : s.extract i (i + 1) = ⟨#[s.data.toList[i]'h]⟩ := by
  rw [Lib.extract_eq, List.drop_eq_getElem_cons h, show i + 1 - i = 0 + 1 by omega, List.take_succ_cons, List.take_zero]
theorem rtoken_loop (s : ByteArray) (hs : s.size ≤ 281474976710656) : ∀ (m k i : Nat), i + m = s.size → m + 20 < k → sallyportref08_Token.l0 k s (i : Int) = some ((s.data.toList.drop i).all Fd.sign && (!s.data.toList.isEmpty && decide (s.data.toList.length ≤ 64))) := by
  intro m
  induction m with
  | zero =>
    intro k i hi hk
    obtain ⟨k, rfl⟩ : ∃ j, k = j + 1 := ⟨k - 1, by omega⟩
    have hl : s.data.toList.length = s.size := (Lib.size_eq s).symm
    simp only [sallyportref08_Token.l0]
    rw [if_neg (by omega), List.drop_of_length_le (by omega), hl]
    cases hd : s.data.toList with
    | nil =>
      have : s.size = 0 := by rw [← hl, hd]; rfl
      simp [this]
    | cons x r =>
      have : 0 < s.size := by rw [← hl, hd]; simp
      simp only [List.all_nil, Bool.true_and, List.isEmpty_cons, Bool.not_false]
      first
        | (rw [if_pos (by omega)]; congr 1; rw [Bool.eq_iff_iff, decide_eq_true_eq, decide_eq_true_eq]; omega)
        | (congr 1; rw [Bool.eq_iff_iff]; simp; omega)
  | succ m ih =>
    intro k i hi hk
    obtain ⟨k, rfl⟩ : ∃ j, k = j + 1 := ⟨k - 1, by omega⟩
    have hl : s.data.toList.length = s.size := (Lib.size_eq s).symm
    have hlt : i < s.data.toList.length := by omega
    have hw := wrap64_nat i s.size (by omega) hs
    have hx : s.extract ((i : Int)).toNat ((((i + 1 : Nat) : Int))).toNat = ⟨#[s.data.toList[i]'hlt]⟩ := by
      rw [show ((i : Int)).toNat = i by omega, show (((i + 1 : Nat) : Int)).toNat = i + 1 by omega]; exact one_at s i hlt
    have hf : sallyportbase_Find.f k (⟨#[33, 35, 36, 37, 38, 39, 42, 43, 45, 46, 94, 95, 96, 124, 126]⟩ : ByteArray) ⟨#[s.data.toList[i]'hlt]⟩ = some (Lib.index signL [s.data.toList[i]'hlt]) := find_f _ _ (by decide) (by show 1 ≤ 281474976710656; omega) k (by show 15 + 1 < k; omega)
    have hR := ih k (i + 1) (by omega) (by omega)
    simp only [sallyportref08_Token.l0]
    rw [if_pos (by omega), if_pos (by omega), bt_at s i hlt, hw, hx, hf, hR, List.drop_eq_getElem_cons hlt, List.all_cons, Bool.and_assoc]
    have hsg := sign_iff (s.data.toList[i]'hlt)
    generalize Lib.index signL [s.data.toList[i]'hlt] = v at hsg
    generalize Fd.sign (s.data.toList[i]'hlt) = b at hsg ⊢
    generalize (s.data.toList[i]'hlt).toNat = c at hsg ⊢
    generalize ((List.drop (i + 1) s.data.toList).all Fd.sign && (!s.data.toList.isEmpty && decide (s.data.toList.length ≤ 64))) = R
    have hii : (i : Int) ≤ ((i + 1 : Nat) : Int) := by omega
    have hij : ((i + 1 : Nat) : Int) ≤ (s.size : Int) := by omega
    simp only [hii, hij, if_true, Option.bind_some]
    cases b
    · have h := fun h => Bool.false_ne_true (hsg.2 h)
      simp only [Bool.false_and]
      repeat' split
      all_goals first | rfl | (exfalso; apply h; omega)
    · have h := hsg.1 rfl
      simp only [Bool.true_and]
      repeat' split
      all_goals first | rfl | (exfalso; omega)
theorem rtoken_f (s : ByteArray) (hs : s.size ≤ 281474976710656) (k : Nat) (hk : s.size + 20 < k) : sallyportref08_Token.f k s = some (tokB s) := by
  unfold sallyportref08_Token.f
  have := rtoken_loop s hs s.size k 0 (by omega) hk
  rw [List.drop_zero] at this
  exact this
def blk (c : UInt8) : Bool := c == 32 || c == 9
theorem trimB_same (l : List UInt8) : (Fd.trimB l == l) = ((l.head?.map blk).getD false == false && (l.getLast?.map blk).getD false == false) := by
  have hb : ∀ c : UInt8, ([32, 9] : List UInt8).contains c = blk c := fun c => by unfold blk; simp only [List.contains_cons, List.contains_nil, Bool.or_false]
  have hp : (fun c : UInt8 => ([32, 9] : List UInt8).contains c) = blk := funext hb
  cases h : l.reverse with
  | nil =>
    have : l = [] := by simpa using h
    subst this; rfl
  | cons y t =>
    have hl : l = t.reverse ++ [y] := by
      have := congrArg List.reverse h
      simpa using this
    have hlast : l.getLast? = some y := by rw [hl]; simp
    rw [hlast]
    have hlen : l.length = t.length + 1 := by rw [hl]; simp
    unfold Fd.trimB Lib.trimS Lib.trimLeftS Lib.trimRightS
    rw [hp, h]
    have hdw : ∀ m : List UInt8, (m.dropWhile blk).length ≤ m.length := fun m => (List.dropWhile_sublist _).length_le
    simp only [Option.map_some, Option.getD_some]
    cases hy : blk y
    · rw [List.dropWhile_cons_of_neg (by rw [hy]; exact Bool.false_ne_true)]
      have hrev : (y :: t).reverse = l := by rw [← h]; simp
      rw [hrev]
      cases hc : l with
      | nil => rw [hc] at hlen; simp at hlen
      | cons x r =>
        simp only [List.head?_cons, Option.map_some, Option.getD_some]
        cases hx : blk x
        · rw [List.dropWhile_cons_of_neg (by rw [hx]; exact Bool.false_ne_true)]; simp
        · rw [List.dropWhile_cons_of_pos hx]
          have : List.dropWhile blk r ≠ x :: r := fun e => by
            have := hdw r; rw [e, List.length_cons] at this; omega
          simp [this]
    · rw [List.dropWhile_cons_of_pos hy]
      have h1 := hdw (List.dropWhile blk t).reverse
      have h2 := hdw t
      rw [List.length_reverse] at h1
      have : List.dropWhile blk (List.dropWhile blk t).reverse ≠ l := fun e => by rw [e] at h1; omega
      simp [this]
end Go.Proofs.YtaakgjbdknobbaaGreatDoor.E


namespace Go.Proofs.YtaakgjbdknobbaaGreatDoor.E
open Go.RowKit Go.Proofs.YtaakgjbdknobbaaGreatDoorW.PrintWords Go.Proofs.YtaakgjbdknobbaaGreatDoorW.PrintLast Go.Proofs.YtaakgjbdknobbaaGreatDoor.XK Go.Proofs.YtaakgjbdknobbaaGreatDoor.XA Go.Proofs.YtaakgjbdknobbaaGreatDoor.XD Go.Proofs.YtaakgjbdknobbaaGreatDoor.XZ
set_option linter.unusedVariables false
set_option linter.unusedSimpArgs false
theorem blank_f (c : UInt8) : sallyportref08_blank.f (c.toNat : Int) = some (blk c) := by
  have hh : ∀ n : Fin 256, sallyportref08_blank.f ((UInt8.ofNat n.1).toNat : Int) = some (blk (UInt8.ofNat n.1)) := by decide +kernel
  have := hh ⟨c.toNat, c.toNat_lt⟩
  simp only [UInt8.ofNat_toNat] at this
  exact this
def vis (c : UInt8) : Bool := blk c || (decide (33 ≤ c.toNat) && decide (c.toNat ≤ 126))
def ends (l : List UInt8) : Bool := (l.head?.map blk).getD false == false && (l.getLast?.map blk).getD false == false
theorem vis_spc (c : UInt8) : vis c = (decide (32 ≤ (if c = 9 then (32 : UInt8) else c).toNat) && decide ((if c = 9 then (32 : UInt8) else c).toNat ≤ 126)) := by
  have hh : ∀ n : Fin 256, vis (UInt8.ofNat n.1) = (decide (32 ≤ (if UInt8.ofNat n.1 = 9 then (32 : UInt8) else UInt8.ofNat n.1).toNat) && decide ((if UInt8.ofNat n.1 = 9 then (32 : UInt8) else UInt8.ofNat n.1).toNat ≤ 126)) := by decide +kernel
  have := hh ⟨c.toNat, c.toNat_lt⟩
  simp only [UInt8.ofNat_toNat] at this
  exact this
theorem value_ends (l : List UInt8) : Hd.value l = (l.all vis && (decide (l.length ≤ 4096) && ends l)) := by
  unfold Hd.value Hd.plain Hd.spc
  rw [trimB_same, List.all_map, List.length_map, Bool.and_assoc]
  rw [show ((fun c : UInt8 => decide (32 ≤ c.toNat) && decide (c.toNat ≤ 126)) ∘ fun c => if c = 9 then 32 else c) = vis from funext fun c => (vis_spc c).symm]
  rfl
theorem rvalue_loop (s : ByteArray) (hs : s.size ≤ 281474976710656) : ∀ (m k i : Nat), i + m = s.size → m < k → sallyportref08_Value.l0 k s (i : Int) = some ((s.data.toList.drop i).all vis && (decide (s.data.toList.length ≤ 4096) && ends s.data.toList)) := by
  intro m
  induction m with
  | zero =>
    intro k i hi hk
    obtain ⟨k, rfl⟩ : ∃ j, k = j + 1 := ⟨k - 1, by omega⟩
    have hl : s.data.toList.length = s.size := (Lib.size_eq s).symm
    simp only [sallyportref08_Value.l0]
    rw [if_neg (by omega), List.drop_of_length_le (by omega), List.all_nil, Bool.true_and]
    by_cases h4 : s.data.toList.length ≤ 4096
    · rw [if_pos (by omega), decide_eq_true h4, Bool.true_and, ByteArray.toList_eq]
      by_cases he : s.data.toList = []
      · rw [if_pos he, he]; rfl
      · rw [if_neg he]
        have hp : 0 < s.data.toList.length := List.length_pos_iff.2 he
        have hb0 := bt_at s 0 hp
        have hb1 := bt_at s (s.data.toList.length - 1) (by omega)
        have hw : wrap64 ((s.size : Int) - 1) = ((s.data.toList.length - 1 : Nat) : Int) := by rw [wrap64_id _ (by omega) (by omega)]; omega
        rw [if_pos (by omega), hw, hb1, if_pos (by omega), if_pos (by omega)]
        rw [show (0 : Int) = ((0 : Nat) : Int) from rfl, hb0, blank_f, blank_f]
        simp only [Option.bind_some]
        unfold ends
        rw [List.head?_eq_getElem?, List.getLast?_eq_getElem?, List.getElem?_eq_getElem hp, List.getElem?_eq_getElem (by omega)]
        simp only [Option.map_some, Option.getD_some]
        generalize blk s.data.toList[0] = b
        generalize blk s.data.toList[s.data.toList.length - 1] = e
        cases b <;> cases e <;> rfl
    · rw [if_neg (by omega), decide_eq_false h4]; rfl
  | succ m ih =>
    intro k i hi hk
    obtain ⟨k, rfl⟩ : ∃ j, k = j + 1 := ⟨k - 1, by omega⟩
    have hl : s.data.toList.length = s.size := (Lib.size_eq s).symm
    have hlt : i < s.data.toList.length := by omega
    have hw := wrap64_nat i s.size (by omega) hs
    have hR := ih k (i + 1) (by omega) (by omega)
    simp only [sallyportref08_Value.l0]
    rw [if_pos (by omega), if_pos (by omega), bt_at s i hlt, hw, hR, List.drop_eq_getElem_cons hlt, List.all_cons, Bool.and_assoc, blank_f]
    simp only [Option.bind_some]
    unfold vis
    generalize blk (s.data.toList[i]'hlt) = b
    generalize (s.data.toList[i]'hlt).toNat = c
    generalize ((List.drop (i + 1) s.data.toList).all _ && _) = R
    by_cases h1 : c < 33
    · rw [if_pos (by omega), decide_eq_false (show ¬ 33 ≤ c by omega)]
      cases b <;> simp
    · rw [if_neg (by omega), decide_eq_true (show 33 ≤ c by omega)]
      by_cases h2 : c > 126
      · rw [if_pos (by omega), decide_eq_false (show ¬ c ≤ 126 by omega)]
        cases b <;> simp
      · rw [if_neg (by omega), decide_eq_true (show c ≤ 126 by omega)]
        cases b <;> simp
theorem rvalue_f (s : ByteArray) (hs : s.size ≤ 281474976710656) (k : Nat) (hk : s.size < k) : sallyportref08_Value.f k s = some (valB s) := by
  unfold sallyportref08_Value.f valB
  have := rvalue_loop s hs s.size k 0 (by omega) hk
  rw [List.drop_zero] at this
  rw [value_ends]
  exact this
end Go.Proofs.YtaakgjbdknobbaaGreatDoor.E


namespace Go.Proofs.YtaakgjbdknobbaaGreatDoor.E
open Go.RowKit Go.Proofs.YtaakgjbdknobbaaGreatDoorW.PrintWords Go.Proofs.YtaakgjbdknobbaaGreatDoorW.PrintLast Go.Proofs.YtaakgjbdknobbaaGreatDoor.XK Go.Proofs.YtaakgjbdknobbaaGreatDoor.XA Go.Proofs.YtaakgjbdknobbaaGreatDoor.XD Go.Proofs.YtaakgjbdknobbaaGreatDoor.XZ
set_option linter.unusedVariables false
set_option linter.unusedSimpArgs false
theorem C_none {n : Nat} {l : List S78} {w : World} (h : Kd.C k78 w none n l) (hn : n = l.length) : l = [] := by
  rcases Nat.eq_zero_or_pos l.length with h0 | h0
  · exact List.eq_nil_of_length_eq_zero h0
  · obtain ⟨ad, h, _⟩ := h.2.2 (hn ▸ h0)
    cases h
set_option maxHeartbeats 8000000 in
set_option maxRecDepth 100000 in
theorem clone_any (A0 : Option Addr) (c0 : Nat) (l0 : List (S78)) (w : World) (hr0 : Kd.C k78 w A0 l0.length l0) (hlen : l0.length < 4398046511104) :
    Calls Tryz.prog 65 #[.slice A0 l0.length c0] w fun e w' => ∃ v0_ : Value, e = .returned (v0_) ∧ Kd.R k78 78 w' w.heap.size (fun _ => True) v0_ l0 ∧ Below w.heap.size w w' := by
  have q28 : ∀ (w : World) (a : Option Addr) (n c n' c' : Nat), (binOp .eql 28 (.slice a n c) (.slice none n' c')).run Tryz.prog w = .ok (.bool a.isNone) w := fun w a n c n' c' => Lib.run_eql_slice_nil w _ _ a n c n' c' Tryz.underlying28
  have HR0 := Aside0.mk hr0
  have HL := Aside0.mk hlen
  have HB := Aside0.mk (Below.refl w.heap.size w)
  cases A0 with
  | none =>
    obtain rfl := C_none hr0 rfl
    clear hr0
    go_enter Tryz.func65, Tryz.ntmps65
    go_wp2
    go_ret
    exact ⟨_, rfl, Kd.R_nil _ _ _ _ _, Below.refl _ _⟩
  | some ad =>
    clear hr0
    go_enter Tryz.func65, Tryz.ntmps65
    go_wp2_with (first | ((with_reducible refine gate_dst (N := 5) rfl ?_); refine Kd.R_lit k78 _ 78 ?hg (N := 5) ?hd (xs := ([] : List (S78))) (inner := []) (ok := fun _ => True) (okp := fun _ => True) ?hr ?hp (fun _ hk => hk) trivial (Below.refl _ _) (Nat.le_refl _) (by simp) ?_; (case hd => rfl); (case hg => rfl); (case hr => first | (go_simp; done) | (go_simp; rfl)); (case hp => exact (Reps.none _ _)); intro v102 w3 ho4 hb hg_ hnew_; clear hg_ hnew_; have n0_ := Aside0.mk (Kd.R_lower ho4 (below_size (by repeat (first | (with_reducible first | exact HB.out | apply below_alloc | apply pw_below_drewN | apply below_drew1) | exact HB.out)))); have n1_ := Aside0.mk (below_step (by repeat (first | (with_reducible first | exact HB.out | apply below_alloc | apply pw_below_drewN | apply below_drew1) | exact HB.out)) hb); clear HB; have HO103 := n0_; have HB := n1_; clear n0_ n1_; clear hb ho4) | ((with_reducible refine gate_builtin (b := .append) (xs := #[.tmp 5, .tmp 6]) rfl ?_); at_builtin; refine Kd.R_append_rows k78 (w0 := w) w.heap.size rfl (.tmp 5) (.tmp 6) 28 78 (.agg #[(.string ⟨#[]⟩), (.string ⟨#[]⟩)]) 32 rfl Tryz.underlying28 info78 rfl (by decide) (by omega) v102 [] l0 _ _ _ (fun _ => True) (fun _ => False) rfl rfl ?aO ?aR (fun _ _ h => h) (fun _ h => h.elim) ?aF ?aB ?aS ?aL ?_; (case aR => repeat (first | exact (Kd.C_below HR0.out HB.out) | (with_reducible refine Kd.C_alloc ?_ _) | (with_reducible refine Kd.C_drewN ?_ _) | (with_reducible refine Kd.C_drew ?_))); (case aB => exact (by repeat (first | (with_reducible first | exact HB.out | apply below_alloc | apply pw_below_drewN | apply below_drew1) | exact HB.out))); (case aF => exact (fun _ _ => trivial)); (case aO => exact (by (with_reducible repeat (first | apply Kd.R_alloc | apply Kd.R_drewN | apply Kd.R_drew)); exact HO103.out)); (case aS => exact (below_size (by repeat (first | (with_reducible first | exact HB.out | apply below_alloc | apply pw_below_drewN | apply below_drew1) | exact HB.out)))); (case aL => have := HL.out; rw [List.length_nil]; omega); intro v105 w5 ho hb hg hat; have n0_ := Aside0.mk (hb); have n1_ := Aside0.mk (ho); clear HB; clear HO103; have HB := n0_; have HO106 := n1_; clear n0_ n1_; clear ho hb hg hat))
    go_ret
    exact ⟨_, rfl, by (with_reducible repeat (first | apply Kd.R_alloc | apply Kd.R_drewN | apply Kd.R_drew)); exact HO106.out, (by repeat (first | (with_reducible first | exact HB.out | apply below_alloc | apply pw_below_drewN | apply below_drew1) | exact HB.out))⟩
def addT (l : List S78) (nm va : ByteArray) : List S78 × Int :=
  if tokB nm && valB va then (if 64 ≤ l.length then ([], 3) else (l ++ [⟨nm, va⟩], 0)) else ([], 2)
def AddPost (r : List S78 × Int) (w : World) (e : Ending) (w' : World) : Prop := ∃ v0_ : Value, e = .returned (.tuple #[v0_, .int .i64 r.2]) ∧ Kd.R k78 78 w' w.heap.size (fun _ => True) v0_ r.1 ∧ Below w.heap.size w w'
set_option maxHeartbeats 8000000 in
set_option maxRecDepth 100000 in
theorem add_any (A0 : Option Addr) (c0 : Nat) (l : List S78) (nm va : ByteArray) (w : World) (hS : StdW w) (hr0 : Kd.C k78 w A0 l.length l) (hlen : l.length < 1048577) (hnm : nm.size ≤ 281474976710656) (hva : va.size < 4294967281) :
    Calls Tryz.prog 17 #[.slice A0 l.length c0, .string nm, .string va] w (AddPost (addT l nm va) w) := by
  have HS := Lib.hid hS
  have HR := Lib.hid hr0
  have HL := Lib.hid (Nat.lt_trans hlen (show 1048577 < 4398046511104 by decide))
  have HT := Lib.hid (token_any nm hnm)
  have HV := Lib.hid (value_any va hva)
  have HB := Lib.hid (Below.refl w.heap.size w)
  clear hS hr0 hlen hnm hva
  unfold addT
  generalize tokB nm = tk at HT ⊢
  generalize valB va = vk at HV ⊢
  cases tk
  · rw [Bool.false_and, if_neg Bool.false_ne_true]
    go_enter Tryz.func17, Tryz.ntmps17
    go_wp2_with (first | (go_at_call 32; (with_reducible refine (HT.out _ (StdW.below HS.out HB.out)).mono ?_); rintro e wn ⟨rfl, hb⟩; have HB := Lib.hid (below_then HB.out HB.out.size hb); clear hb))
    go_ret2
    exact ⟨_, rfl, Kd.R_nil _ _ _ _ _, HB.out⟩
  · cases vk
    · rw [Bool.and_false, if_neg Bool.false_ne_true]
      go_enter Tryz.func17, Tryz.ntmps17
      go_wp2_with (first | (go_at_call 32; (with_reducible refine (HT.out _ (StdW.below HS.out HB.out)).mono ?_); rintro e wn ⟨rfl, hb⟩; have HB := Lib.hid (below_then HB.out HB.out.size hb); clear hb) | (go_at_call 34; (with_reducible refine (HV.out _ (StdW.below HS.out HB.out)).mono ?_); rintro e wn ⟨rfl, hb⟩; have HB := Lib.hid (below_then HB.out HB.out.size hb); clear hb))
      go_ret2
      exact ⟨_, rfl, Kd.R_nil _ _ _ _ _, HB.out⟩
    · rw [Bool.and_true, if_pos rfl]
      by_cases h64 : 64 ≤ l.length
      · have h64' : (64 : Int) ≤ (l.length : Int) := by omega
        rw [if_pos h64]
        go_enter Tryz.func17, Tryz.ntmps17
        go_wp2_with (first | (go_at_call 32; (with_reducible refine (HT.out _ (StdW.below HS.out HB.out)).mono ?_); rintro e wn ⟨rfl, hb⟩; have HB := Lib.hid (below_then HB.out HB.out.size hb); clear hb) | (go_at_call 34; (with_reducible refine (HV.out _ (StdW.below HS.out HB.out)).mono ?_); rintro e wn ⟨rfl, hb⟩; have HB := Lib.hid (below_then HB.out HB.out.size hb); clear hb))
        go_ret2
        exact ⟨_, rfl, Kd.R_nil _ _ _ _ _, HB.out⟩
      · have h64' : ¬ (64 : Int) ≤ (l.length : Int) := by omega
        rw [if_neg h64]
        go_enter Tryz.func17, Tryz.ntmps17
        go_wp2_with (first | (go_at_call 32; (with_reducible refine (HT.out _ (StdW.below HS.out HB.out)).mono ?_); rintro e wn ⟨rfl, hb⟩; have HB := Lib.hid (below_then HB.out HB.out.size hb); clear hb) | (go_at_call 34; (with_reducible refine (HV.out _ (StdW.below HS.out HB.out)).mono ?_); rintro e wn ⟨rfl, hb⟩; have HB := Lib.hid (below_then HB.out HB.out.size hb); clear hb) | (go_at_call 65; (with_reducible refine (clone_any A0 c0 l _ (Kd.C_below HR.out HB.out) HL.out).mono ?_); rintro e wn ⟨v118, rfl, ho0, hb⟩; have HO119 := Lib.hid (Kd.R_lower ho0 HB.out.size); have HB := Lib.hid (below_then HB.out HB.out.size hb); clear ho0 hb) | ((with_reducible refine gate_builtin (b := .append) (xs := #[.tmp 22, .tmp 26]) rfl ?_); at_builtin; refine Kd.R_append k78 (w0 := w) w.heap.size rfl (.tmp 22) (.tmp 26) 28 78 (.agg #[(.string ⟨#[]⟩), (.string ⟨#[]⟩)]) 32 rfl Tryz.underlying28 info78 rfl (by decide) (by omega) v118 l (⟨nm, va⟩ : S78) [.string nm, .string va] (fun _ => True) (fun _ => False) rfl rfl ?aP (fun _ hk => hk.elim) ?aF ?aO ?aB ?aS ?aL ?_; (case aP => exact k78_mkM _ _ _ (⟨nm, va⟩ : S78)); (case aB => exact (by repeat (first | (with_reducible first | exact HB.out | apply below_alloc | apply pw_below_drewN | apply below_drew1) | exact HB.out))); (case aF => exact (fun _ _ => trivial)); (case aO => exact (by (with_reducible repeat (first | apply Kd.R_alloc | apply Kd.R_drewN | apply Kd.R_drew)); exact HO119.out)); (case aS => exact (below_size (by repeat (first | (with_reducible first | exact HB.out | apply below_alloc | apply pw_below_drewN | apply below_drew1) | exact HB.out)))); (case aL => have := HL.out; omega); intro v121 w13 ho hb hg hat; have n0_ := Lib.hid (hb); have n1_ := Lib.hid (ho); clear HB; clear HO119; have HB := n0_; have HO122 := n1_; clear n0_ n1_; clear ho hb hg hat))
        go_ret2
        exact ⟨_, rfl, by (with_reducible repeat (first | apply Kd.R_alloc | apply Kd.R_drewN | apply Kd.R_drew)); exact HO122.out, (by repeat (first | (with_reducible first | exact HB.out | apply below_alloc | apply pw_below_drewN | apply below_drew1) | exact HB.out))⟩
end Go.Proofs.YtaakgjbdknobbaaGreatDoor.E


namespace Go.Proofs.YtaakgjbdknobbaaGreatDoor.E
open Go.RowKit Go.Proofs.YtaakgjbdknobbaaGreatDoorW.PrintWords Go.Proofs.YtaakgjbdknobbaaGreatDoorW.PrintLast Go.Proofs.YtaakgjbdknobbaaGreatDoor.XK Go.Proofs.YtaakgjbdknobbaaGreatDoor.XA Go.Proofs.YtaakgjbdknobbaaGreatDoor.XD Go.Proofs.YtaakgjbdknobbaaGreatDoor.XZ
set_option linter.unusedVariables false
set_option linter.unusedSimpArgs false
theorem rtoken_any (s : ByteArray) (hs : s.size ≤ 281474976710656) (w : World) : Calls Tryz.prog 33 #[.string s] w fun e w' => e = .returned (.bool (tokB s)) ∧ Below w.heap.size w w' :=
  (sallyportref08_Token.calls (s.size + 21) s (tokB s) w (rtoken_f s hs _ (by omega))).mono fun e w' ⟨h, d⟩ => ⟨h, d.below⟩
theorem rvalue_any (s : ByteArray) (hs : s.size ≤ 281474976710656) (w : World) : Calls Tryz.prog 35 #[.string s] w fun e w' => e = .returned (.bool (valB s)) ∧ Below w.heap.size w w' :=
  (sallyportref08_Value.calls (s.size + 1) s (valB s) w (rvalue_f s hs _ (by omega))).mono fun e w' ⟨h, d⟩ => ⟨h, d.below⟩
def RputPost (r : Nat ⊕ List UInt8) (w : World) (e : Ending) (w' : World) : Prop :=
  Below w.heap.size w w' ∧ match r with
    | .inl c => e = .returned (.tuple #[.slice none 0 0, .int .i64 (c : Int)])
    | .inr t => ∃ (A : Option Addr) (c : Nat), e = .returned (.tuple #[.slice A t.length c, .int .i64 0]) ∧ ReadsInt w' .u8 A t.length (numsOf t)
theorem start_eq2 (first : ByteArray) : (first ++ (⟨#[13, 10]⟩ : ByteArray)).data.toList = first.data.toList ++ [13, 10] := by rw [dapp]
theorem lineB2 (out nm va : ByteArray) : (out ++ (nm ++ (⟨#[58, 32]⟩ : ByteArray) ++ va ++ ⟨#[13, 10]⟩)).data.toList = out.data.toList ++ Hd.fline (nm.data.toList, va.data.toList) := by
  rw [dapp, lineB]
theorem bytesOf_nums (s : ByteArray) (t : List UInt8) (h : s.data.toList = t) : bytesOf s = numsOf t := by
  unfold bytesOf numsOf; rw [h]
set_option maxRecDepth 100000 in
set_option maxHeartbeats 16000000 in
theorem rput_any (first : ByteArray) (A0 : Option Addr) (c0 : Nat) (l : List S78) (w : World) (hR : Kd.C k78 w A0 l.length l) (hf : first.size ≤ 1000000) (hok : ∀ f ∈ l, okFv f) (hlen : l.length ≤ 70368744177664) :
    Calls Tryz.prog 117 #[.string first, .slice A0 l.length c0] w (RputPost (Hd.putR first.data.toList (l.map toF)) w) := by
  have HR := Lib.hid hR
  have HT := Lib.hid (fun f (h : f ∈ l) W => rtoken_any f.f0 (hok f h).1 W)
  have HV := Lib.hid (fun f (h : f ∈ l) W => rvalue_any f.f1 (by have := (hok f h).2; omega) W)
  have hfz : first.data.toList.length = first.size := (Lib.size_eq first).symm
  generalize hRES : Hd.putR first.data.toList (l.map toF) = RES
  have HRES : Hid (RES = match Hd.putL (first.data.toList ++ [13, 10]) (l.map toF) with
    | none => .inl 2
    | some acc => if 8192 < (acc ++ [13, 10]).length ∨ 64 < l.length then .inl 3 else .inr (acc ++ [13, 10])) := Lib.hid (by rw [← hRES]; unfold Hd.putR; rw [List.length_map]; rfl)
  have kb := fun (s : ByteArray) W => print_bytes (P := Tryz.prog) 9 41 5 Tryz.underlying9 Tryz.underlying41 Tryz.underlying5 s W
  clear hR hok hRES
  go_enter Tryz.func117, Tryz.ntmps117
  go_wp2
  go_loopw [6, 7] (fun o i wr => ∃ (k : Nat) (out : ByteArray), k ≤ l.length ∧ i = .int .i64 k ∧ o = .string out ∧ out.size ≤ 1012358 ∧ Hid (Below w.heap.size w wr) ∧ Hid (Hd.putL (first.data.toList ++ [13, 10]) (l.map toF) = Hd.putL out.data.toList ((l.map toF).drop k))) (fun _ i _ => l.length - (intOf i).toNat)
  case atStart => exact ⟨0, first ++ (⟨#[13, 10]⟩ : ByteArray), Nat.zero_le _, rfl, rfl, by rw [ByteArray.size_append, size_two]; omega, Lib.hid (Below.refl _ _), Lib.hid (by rw [start_eq2, List.drop_zero])⟩
  case round =>
    obtain ⟨k, out, hk, rfl, rfl, ha, HB, HP⟩ := hrel
    by_cases hlt : k < l.length
    · have hk0 : (0 : Int) ≤ (k : Int) := Int.natCast_nonneg _
      have hk1 : (k : Int) < (l.length : Int) := by omega
      have hrd : rd_T78 l (k : Int) = l[k] := by
        unfold rd_T78
        rw [show ((k : Int)).toNat = k by omega, List.getD_eq_getElem?_getD, List.getElem?_eq_getElem hlt]; rfl
      obtain ⟨ad, ea, x0, x1⟩ := at_T78 HR.out (k : Int) hk0 hk1
      cases ea
      rw [hrd] at x0 x1
      have HTk := Lib.hid (HT.out l[k] (List.getElem_mem _))
      have HVk := Lib.hid (HV.out l[k] (List.getElem_mem _))
      have HPk : Hid (Hd.putL (first.data.toList ++ [13, 10]) (l.map toF) = Hd.putL out.data.toList (toF l[k] :: (l.map toF).drop (k + 1))) := Lib.hid (by
        rw [HP.out, List.drop_eq_getElem_cons (by rw [List.length_map]; exact hlt), List.getElem_map])
      generalize l[k] = r at x0 x1 HTk HVk HPk hrd
      obtain ⟨nm, va⟩ := r
      simp only [Int.toNat_natCast] at x0 x1
      clear hrd HP
      have HX := Lib.hid (And.intro x0 x1)
      replace x0 := (HB.out.cell (World.block_lt_of_cell? w _ x0)).trans x0
      replace x1 := (HB.out.cell (World.block_lt_of_cell? w _ x1)).trans x1
      dsimp only at HTk HVk
      cases ht : tokB nm
      · have HN : Hid (RES = .inl 2) := Lib.hid (by rw [HRES.out, HPk.out, putL_no _ _ _ (by show (tokB nm && valB va) = false; rw [ht]; rfl)])
        rw [ht] at HTk
        clear HPk HRES
        go_wp2_with (first | (go_at_call 33; (with_reducible refine (HTk.out _).mono ?_); rintro e w2 ⟨rfl, hb2⟩; have HB2 : Hid (Below w.heap.size w w2) := Lib.hid (below_then HB.out HB.out.size hb2); clear hb2; clear x0 x1; have x0 := (HB2.out.cell (World.block_lt_of_cell? w _ HX.out.1)).trans HX.out.1; have x1 := (HB2.out.cell (World.block_lt_of_cell? w _ HX.out.2)).trans HX.out.2))
        go_ret2
        rw [HN.out]
        exact ⟨HB2.out, rfl⟩
      · cases hv : valB va
        · have HN : Hid (RES = .inl 2) := Lib.hid (by rw [HRES.out, HPk.out, putL_no _ _ _ (by show (tokB nm && valB va) = false; rw [ht, hv]; rfl)])
          rw [ht] at HTk
          rw [hv] at HVk
          clear HPk HRES
          go_wp2_with (first | (go_at_call 33; (with_reducible refine (HTk.out _).mono ?_); rintro e w2 ⟨rfl, hb2⟩; have HB2 : Hid (Below w.heap.size w w2) := Lib.hid (below_then HB.out HB.out.size hb2); clear hb2; clear x0 x1; have x0 := (HB2.out.cell (World.block_lt_of_cell? w _ HX.out.1)).trans HX.out.1; have x1 := (HB2.out.cell (World.block_lt_of_cell? w _ HX.out.2)).trans HX.out.2) | (go_at_call 35; (with_reducible refine (HVk.out _).mono ?_); rintro e w3 ⟨rfl, hb3⟩; have HB3 : Hid (Below w.heap.size w w3) := Lib.hid (below_then HB2.out HB2.out.size hb3); clear hb3; clear x0 x1; have x0 := (HB3.out.cell (World.block_lt_of_cell? w _ HX.out.1)).trans HX.out.1; have x1 := (HB3.out.cell (World.block_lt_of_cell? w _ HX.out.2)).trans HX.out.2))
          go_ret2
          rw [HN.out]
          exact ⟨HB3.out, rfl⟩
        · have HN : Hid (Hd.putL (first.data.toList ++ [13, 10]) (l.map toF) = Hd.putL (if out.data.toList.length ≤ 8192 then out.data.toList ++ Hd.fline (nm.data.toList, va.data.toList) else out.data.toList) ((l.map toF).drop (k + 1))) := Lib.hid (by rw [HPk.out, putL_yes _ _ _ (by show (tokB nm && valB va) = true; rw [ht, hv]; rfl)]; rfl)
          have hnl := token_len nm ht
          have hvl := value_len va hv
          rw [ht] at HTk
          rw [hv] at HVk
          clear HPk
          have hol : out.data.toList.length = out.size := (Lib.size_eq out).symm
          by_cases h8 : out.size ≤ 8192
          · have h8' : (out.size : Int) ≤ 8192 := by omega
            go_wp2_with (first | (go_at_call 33; (with_reducible refine (HTk.out _).mono ?_); rintro e w2 ⟨rfl, hb2⟩; have HB2 : Hid (Below w.heap.size w w2) := Lib.hid (below_then HB.out HB.out.size hb2); clear hb2; clear x0 x1; have x0 := (HB2.out.cell (World.block_lt_of_cell? w _ HX.out.1)).trans HX.out.1; have x1 := (HB2.out.cell (World.block_lt_of_cell? w _ HX.out.2)).trans HX.out.2) | (go_at_call 35; (with_reducible refine (HVk.out _).mono ?_); rintro e w3 ⟨rfl, hb3⟩; have HB3 : Hid (Below w.heap.size w w3) := Lib.hid (below_then HB2.out HB2.out.size hb3); clear hb3; clear x0 x1; have x0 := (HB3.out.cell (World.block_lt_of_cell? w _ HX.out.1)).trans HX.out.1; have x1 := (HB3.out.cell (World.block_lt_of_cell? w _ HX.out.2)).trans HX.out.2))
            repeat (go_quiet (fail); try go_wp2)
            go_roundw
            case rel => exact ⟨k + 1, out ++ (nm ++ (⟨#[58, 32]⟩ : ByteArray) ++ va ++ ⟨#[13, 10]⟩), by omega, by go_num, rfl, by simp only [ByteArray.size_append]; have z1 : (⟨#[58, 32]⟩ : ByteArray).size = 2 := rfl; have z2 : (⟨#[13, 10]⟩ : ByteArray).size = 2 := rfl; omega, Lib.hid (by repeat (first | (with_reducible first | exact HB3.out | apply below_alloc | apply pw_below_drewN | apply below_drew1) | exact HB3.out)), Lib.hid (by rw [HN.out, if_pos (by omega), lineB2])⟩
            case measure => simp [intOf]; omega
          · have h8' : ¬ (out.size : Int) ≤ 8192 := by omega
            go_wp2_with (first | (go_at_call 33; (with_reducible refine (HTk.out _).mono ?_); rintro e w2 ⟨rfl, hb2⟩; have HB2 : Hid (Below w.heap.size w w2) := Lib.hid (below_then HB.out HB.out.size hb2); clear hb2; clear x0 x1; have x0 := (HB2.out.cell (World.block_lt_of_cell? w _ HX.out.1)).trans HX.out.1; have x1 := (HB2.out.cell (World.block_lt_of_cell? w _ HX.out.2)).trans HX.out.2) | (go_at_call 35; (with_reducible refine (HVk.out _).mono ?_); rintro e w3 ⟨rfl, hb3⟩; have HB3 : Hid (Below w.heap.size w w3) := Lib.hid (below_then HB2.out HB2.out.size hb3); clear hb3; clear x0 x1; have x0 := (HB3.out.cell (World.block_lt_of_cell? w _ HX.out.1)).trans HX.out.1; have x1 := (HB3.out.cell (World.block_lt_of_cell? w _ HX.out.2)).trans HX.out.2))
            go_roundw
            case rel => exact ⟨k + 1, out, by omega, by go_num, rfl, ha, HB3, Lib.hid (by rw [HN.out, if_neg (by omega)])⟩
            case measure => simp [intOf]; omega
    · have hkl : k = l.length := by omega
      subst hkl
      have HE : Hid (RES = if 8192 < (out.data.toList ++ [13, 10]).length ∨ 64 < l.length then .inl 3 else .inr (out.data.toList ++ [13, 10])) := Lib.hid (by
        rw [HRES.out, HP.out, List.drop_of_length_le (by rw [List.length_map]; exact Nat.le_refl _)]; rfl)
      clear HRES HP
      have hal : (out.data.toList ++ [13, 10]).length = out.size + 2 := by rw [List.length_append, ← Lib.size_eq]; rfl
      have hsz : (out ++ (⟨#[13, 10]⟩ : ByteArray)).size = out.size + 2 := by rw [ByteArray.size_append, size_two]
      by_cases h1 : 8192 < out.size + 2
      · have h1' : (8192 : Int) < ((out.size : Int) + 2) := by omega
        go_wp2
        go_ret2
        rw [HE.out, if_pos (.inl (by omega))]
        exact ⟨HB.out, rfl⟩
      · have h1' : ¬ (8192 : Int) < ((out.size : Int) + 2) := by omega
        by_cases h2 : 64 < l.length
        · have h2' : (64 : Int) < (l.length : Int) := by omega
          go_wp2
          go_ret2
          rw [HE.out, if_pos (.inr h2)]
          exact ⟨HB.out, rfl⟩
        · have h2' : ¬ (64 : Int) < (l.length : Int) := by omega
          go_wp2
          go_ret2
          rw [HE.out, if_neg (fun h => h.elim (fun h => h1 (by omega)) h2)]
          rw [← start_eq2]
          refine ⟨bytes_below HB.out HB.out.size _ _, some ⟨wr.heap.size, 0, none⟩, grownCap wr (out.size + 2) 0 5, ?_, ?_⟩
          · rw [← Lib.size_eq, hsz]; rfl
          · rw [← Lib.size_eq, ← bytesOf_nums _ _ rfl]; exact bytes_reads _ _ _ (by omega)
end Go.Proofs.YtaakgjbdknobbaaGreatDoor.E


namespace Go.Proofs.YtaakgjbdknobbaaGreatDoor.E
open Go.RowKit Go.Proofs.YtaakgjbdknobbaaGreatDoorW.PrintWords Go.Proofs.YtaakgjbdknobbaaGreatDoorW.PrintLast Go.Proofs.YtaakgjbdknobbaaGreatDoor.XK Go.Proofs.YtaakgjbdknobbaaGreatDoor.XA Go.Proofs.YtaakgjbdknobbaaGreatDoor.XD Go.Proofs.YtaakgjbdknobbaaGreatDoor.XZ
set_option linter.unusedVariables false
set_option linter.unusedSimpArgs false
theorem begins_f (p : ByteArray) : sallyportbase_Begins.f p ⟨#[47]⟩ = some (Lib.hasPrefix p.data.toList [47]) := by
  have hl : p.data.toList.length = p.size := (Lib.size_eq p).symm
  have h1 : (⟨#[47]⟩ : ByteArray).size = 1 := rfl
  unfold sallyportbase_Begins.f
  rw [h1]
  by_cases h : 1 ≤ p.size
  · rw [if_pos (by omega), if_pos (by decide), if_pos (by omega), ByteArray.toList_eq, ByteArray.data_extract, Array.toList_extract]
    cases hc : p.data.toList with
    | nil => rw [hc] at hl; simp at hl; omega
    | cons x r => simp [Lib.hasPrefix, List.extract, List.isPrefixOf, ByteArray.toList_eq]; rw [Bool.eq_iff_iff, beq_iff_eq, beq_iff_eq]; exact eq_comm
  · rw [if_neg (by omega)]
    have : p.data.toList = [] := List.eq_nil_of_length_eq_zero (by omega)
    rw [this]; rfl
theorem begins_any (p : ByteArray) (w : World) : Calls Tryz.prog 49 #[.string p, .string ⟨#[47]⟩] w fun e w' => e = .returned (.bool (Lib.hasPrefix p.data.toList [47])) ∧ Below w.heap.size w w' :=
  (sallyportbase_Begins.calls p ⟨#[47]⟩ _ w (begins_f p)).mono fun e w' ⟨h, d⟩ => ⟨h, d.below⟩
theorem rplain_any (s : ByteArray) (hs : s.size ≤ 281474976710656) (least most : Nat) (w : World) : Calls Tryz.prog 96 #[.string s, .int .u8 (least : Int), .int .i64 (most : Int)] w fun e w' => e = .returned (.bool (Hd.plain s.data.toList least most)) ∧ Below w.heap.size w w' :=
  (sallyportref08_plain.calls (s.size + 1) s _ _ _ w (plain_f s hs least most _ (by omega))).mono fun e w' ⟨h, d⟩ => ⟨h, d.below⟩
def RpqPost (c : Int) (w : World) (e : Ending) (w' : World) : Prop := ∃ v0_ : Value, e = .returned (.tuple #[v0_, .int .i64 c]) ∧ Below w.heap.size w w'
theorem rput_no (first : ByteArray) (A0 : Option Addr) (c0 : Nat) (l : List S78) (w : World) (hR : Kd.C k78 w A0 l.length l) (hf : first.size ≤ 1000000) (hok : okLv l = true) :
    Calls Tryz.prog 117 #[.string first, .slice A0 l.length c0] w (RpqPost (putB first l).2 w) := by
  unfold okLv at hok
  rw [Bool.and_eq_true, List.all_eq_true, decide_eq_true_eq] at hok
  refine (rput_any first A0 c0 l w hR hf (fun f hf => by have := hok.1 f hf; rw [Bool.and_eq_true, decide_eq_true_eq, decide_eq_true_eq] at this; exact this) hok.2).mono ?_
  rintro e w' ⟨hb, hp⟩
  unfold putB
  cases hR : Hd.putR first.data.toList (l.map toF) with
  | inl c => rw [hR] at hp; exact ⟨_, hp, hb⟩
  | inr t => rw [hR] at hp; obtain ⟨A, c, he, _⟩ := hp; exact ⟨_, he, hb⟩
theorem ba_ext {a b : ByteArray} (h : a.data.toList = b.data.toList) : a = b := by
  cases a; cases b; simp only at h; congr 1; exact Array.toList_inj.1 h
theorem line2_r (m dt p : ByteArray) : m ++ (⟨#[32, 104, 116, 116, 112, 58, 47, 47]⟩ : ByteArray) ++ dt ++ p ++ ⟨#[32, 72, 84, 84, 80, 47, 49, 46, 49]⟩ = line2 m dt p := by
  apply ba_ext
  unfold line2
  simp only [dapp, List.append_assoc]
  rfl
theorem line1_r (m dt : ByteArray) (h : (m.toList == [67, 79, 78, 78, 69, 67, 84]) = true) : (⟨#[67, 79, 78, 78, 69, 67, 84, 32]⟩ : ByteArray) ++ dt ++ ⟨#[32, 72, 84, 84, 80, 47, 49, 46, 49]⟩ = line1 m dt := by
  apply ba_ext
  have hm : m.data.toList = [67, 79, 78, 78, 69, 67, 84] := by rw [ByteArray.toList_eq] at h; exact eq_of_beq h
  unfold line1
  simp only [dapp, List.append_assoc]
  rw [hm]
  rfl
set_option maxRecDepth 100000 in
set_option maxHeartbeats 16000000 in
theorem rpreq_walk (m : ByteArray) (a b c d : Int) (n : ByteArray) (po : Int) (p : ByteArray) (A0 : Option Addr) (c0 : Nat) (l : List S78) (dt : ByteArray) (w : World) (hS : StdW w) (hR : Kd.C k78 w A0 l.length l) (hc : l.length ≤ c0) (hok : okLv l = true)
    (hm : m.size ≤ 281474976710656) (hp : p.size ≤ 281474976710656) (hto : dt.size ≤ 300)
    (HPD : ∀ W, StdW W → Calls Tryz.prog 67 #[.agg #[.int .u8 a, .int .u8 b, .int .u8 c, .int .u8 d, .string n, .int .i64 po]] W fun e w' => e = .returned (.string dt) ∧ Below W.heap.size W w') :
    Calls Tryz.prog 66 #[.agg #[.string m, .int .u8 a, .int .u8 b, .int .u8 c, .int .u8 d, .string n, .int .i64 po, .string p, .slice A0 l.length c0]] w (RpqPost (preqT dt m p l).2 w) := by
  have HS := Lib.hid hS
  have HR := Lib.hid hR
  have HP := Lib.hid HPD
  have HT := Lib.hid (rtoken_any m hm)
  have HH := Lib.hid (begins_any p)
  have HW : Hid (∀ W, Calls Tryz.prog 96 #[.string p, .int .u8 33, .int .i64 2048] W fun e w' => e = .returned (.bool (Hd.plain p.data.toList 33 2048)) ∧ Below W.heap.size W w') := Lib.hid (rplain_any p hp 33 2048)
  have HU := Lib.hid (fun (first : ByteArray) (hf : first.size ≤ 1000000) W (hr : Kd.C k78 W A0 l.length l) => rput_no first A0 c0 l W hr hf hok)
  have HZ := Lib.hid (Blk.new w (rqC m a b c d n po p A0 l.length c0) 30)
  have HB := Lib.hid (below_alloc (Below.refl w.heap.size w) (.cells (rqC m a b c d n po p A0 l.length c0) 30))
  obtain ⟨q0, q1, q2, q3, q4, q5, q6, q7, q8⟩ := HZ.out.rq
  have hpl : Hd.plain p.data.toList 33 2048 = true → p.size ≤ 2048 := fun h => by
    unfold Hd.plain at h
    simp only [Bool.and_eq_true, decide_eq_true_eq] at h
    rw [Lib.size_eq]; exact h.2
  have htl : tokB m = true → m.size ≤ 64 := token_len m
  clear hS hR HPD hm hp hok
  unfold preqT isConn
  generalize tokB m = tk at HT htl ⊢
  generalize Lib.hasPrefix p.data.toList [47] = hx at HH ⊢
  generalize Hd.plain p.data.toList 33 2048 = wt at HW hpl ⊢
  by_cases h0 : dt.size = 0
  · have h1 : dt.toList.isEmpty = true := by rw [size_zero]; simpa using h0
    rw [if_pos (.inl h0)]
    cases tk
    · go_enter Tryz.func66, Tryz.ntmps66
      go_wp2_with (first | (go_at_call 67; (with_reducible refine (HP.out _ (StdW.below HS.out HB.out)).mono ?_); rintro e wn ⟨rfl, hb⟩; have HZ := Lib.hid (HZ.out.below hb); have HB := Lib.hid (below_then HB.out HB.out.size hb); obtain ⟨q0, q1, q2, q3, q4, q5, q6, q7, q8⟩ := HZ.out.rq; clear hb) | (go_at_call 33; (with_reducible refine (HT.out _).mono ?_); rintro e wn ⟨rfl, hb⟩; have HZ := Lib.hid (HZ.out.below hb); have HB := Lib.hid (below_then HB.out HB.out.size hb); obtain ⟨q0, q1, q2, q3, q4, q5, q6, q7, q8⟩ := HZ.out.rq; clear hb) | (go_at_call 49; (with_reducible refine (HH.out _).mono ?_); rintro e wn ⟨rfl, hb⟩; have HZ := Lib.hid (HZ.out.below hb); have HB := Lib.hid (below_then HB.out HB.out.size hb); obtain ⟨q0, q1, q2, q3, q4, q5, q6, q7, q8⟩ := HZ.out.rq; clear hb) | (go_at_call 96; (with_reducible refine (HW.out _).mono ?_); rintro e wn ⟨rfl, hb⟩; have HZ := Lib.hid (HZ.out.below hb); have HB := Lib.hid (below_then HB.out HB.out.size hb); obtain ⟨q0, q1, q2, q3, q4, q5, q6, q7, q8⟩ := HZ.out.rq; clear hb) | (go_at_call 117; (with_reducible refine (HUU.out _ (Kd.C_below HR.out HB.out)).mono ?_); rintro e wn ⟨v0, rfl, hb⟩; have HB := Lib.hid (below_then HB.out HB.out.size hb); clear hb))
      go_ret2
      exact ⟨_, rfl, HB.out⟩
    · go_enter Tryz.func66, Tryz.ntmps66
      go_wp2_with (first | (go_at_call 67; (with_reducible refine (HP.out _ (StdW.below HS.out HB.out)).mono ?_); rintro e wn ⟨rfl, hb⟩; have HZ := Lib.hid (HZ.out.below hb); have HB := Lib.hid (below_then HB.out HB.out.size hb); obtain ⟨q0, q1, q2, q3, q4, q5, q6, q7, q8⟩ := HZ.out.rq; clear hb) | (go_at_call 33; (with_reducible refine (HT.out _).mono ?_); rintro e wn ⟨rfl, hb⟩; have HZ := Lib.hid (HZ.out.below hb); have HB := Lib.hid (below_then HB.out HB.out.size hb); obtain ⟨q0, q1, q2, q3, q4, q5, q6, q7, q8⟩ := HZ.out.rq; clear hb) | (go_at_call 49; (with_reducible refine (HH.out _).mono ?_); rintro e wn ⟨rfl, hb⟩; have HZ := Lib.hid (HZ.out.below hb); have HB := Lib.hid (below_then HB.out HB.out.size hb); obtain ⟨q0, q1, q2, q3, q4, q5, q6, q7, q8⟩ := HZ.out.rq; clear hb) | (go_at_call 96; (with_reducible refine (HW.out _).mono ?_); rintro e wn ⟨rfl, hb⟩; have HZ := Lib.hid (HZ.out.below hb); have HB := Lib.hid (below_then HB.out HB.out.size hb); obtain ⟨q0, q1, q2, q3, q4, q5, q6, q7, q8⟩ := HZ.out.rq; clear hb) | (go_at_call 117; (with_reducible refine (HUU.out _ (Kd.C_below HR.out HB.out)).mono ?_); rintro e wn ⟨v0, rfl, hb⟩; have HB := Lib.hid (below_then HB.out HB.out.size hb); clear hb))
      go_ret2
      exact ⟨_, rfl, HB.out⟩
  have h1 : dt.toList.isEmpty = false := by rw [size_zero]; simpa using h0
  cases tk
  · rw [if_pos (.inr rfl)]
    go_enter Tryz.func66, Tryz.ntmps66
    go_wp2_with (first | (go_at_call 67; (with_reducible refine (HP.out _ (StdW.below HS.out HB.out)).mono ?_); rintro e wn ⟨rfl, hb⟩; have HZ := Lib.hid (HZ.out.below hb); have HB := Lib.hid (below_then HB.out HB.out.size hb); obtain ⟨q0, q1, q2, q3, q4, q5, q6, q7, q8⟩ := HZ.out.rq; clear hb) | (go_at_call 33; (with_reducible refine (HT.out _).mono ?_); rintro e wn ⟨rfl, hb⟩; have HZ := Lib.hid (HZ.out.below hb); have HB := Lib.hid (below_then HB.out HB.out.size hb); obtain ⟨q0, q1, q2, q3, q4, q5, q6, q7, q8⟩ := HZ.out.rq; clear hb) | (go_at_call 49; (with_reducible refine (HH.out _).mono ?_); rintro e wn ⟨rfl, hb⟩; have HZ := Lib.hid (HZ.out.below hb); have HB := Lib.hid (below_then HB.out HB.out.size hb); obtain ⟨q0, q1, q2, q3, q4, q5, q6, q7, q8⟩ := HZ.out.rq; clear hb) | (go_at_call 96; (with_reducible refine (HW.out _).mono ?_); rintro e wn ⟨rfl, hb⟩; have HZ := Lib.hid (HZ.out.below hb); have HB := Lib.hid (below_then HB.out HB.out.size hb); obtain ⟨q0, q1, q2, q3, q4, q5, q6, q7, q8⟩ := HZ.out.rq; clear hb) | (go_at_call 117; (with_reducible refine (HUU.out _ (Kd.C_below HR.out HB.out)).mono ?_); rintro e wn ⟨v0, rfl, hb⟩; have HB := Lib.hid (below_then HB.out HB.out.size hb); clear hb))
    go_ret2
    exact ⟨_, rfl, HB.out⟩
  have hm64 := htl rfl
  rw [if_neg (fun h => h.elim h0 (fun h => by cases h))]
  cases hcn : (m.toList == [67, 79, 78, 78, 69, 67, 84])
  · rw [if_neg Bool.false_ne_true]
    cases hx
    · rw [Bool.false_and, if_neg Bool.false_ne_true]
      go_enter Tryz.func66, Tryz.ntmps66
      go_wp2_with (first | (go_at_call 67; (with_reducible refine (HP.out _ (StdW.below HS.out HB.out)).mono ?_); rintro e wn ⟨rfl, hb⟩; have HZ := Lib.hid (HZ.out.below hb); have HB := Lib.hid (below_then HB.out HB.out.size hb); obtain ⟨q0, q1, q2, q3, q4, q5, q6, q7, q8⟩ := HZ.out.rq; clear hb) | (go_at_call 33; (with_reducible refine (HT.out _).mono ?_); rintro e wn ⟨rfl, hb⟩; have HZ := Lib.hid (HZ.out.below hb); have HB := Lib.hid (below_then HB.out HB.out.size hb); obtain ⟨q0, q1, q2, q3, q4, q5, q6, q7, q8⟩ := HZ.out.rq; clear hb) | (go_at_call 49; (with_reducible refine (HH.out _).mono ?_); rintro e wn ⟨rfl, hb⟩; have HZ := Lib.hid (HZ.out.below hb); have HB := Lib.hid (below_then HB.out HB.out.size hb); obtain ⟨q0, q1, q2, q3, q4, q5, q6, q7, q8⟩ := HZ.out.rq; clear hb) | (go_at_call 96; (with_reducible refine (HW.out _).mono ?_); rintro e wn ⟨rfl, hb⟩; have HZ := Lib.hid (HZ.out.below hb); have HB := Lib.hid (below_then HB.out HB.out.size hb); obtain ⟨q0, q1, q2, q3, q4, q5, q6, q7, q8⟩ := HZ.out.rq; clear hb) | (go_at_call 117; (with_reducible refine (HUU.out _ (Kd.C_below HR.out HB.out)).mono ?_); rintro e wn ⟨v0, rfl, hb⟩; have HB := Lib.hid (below_then HB.out HB.out.size hb); clear hb))
      go_ret2
      exact ⟨_, rfl, HB.out⟩
    · cases wt
      · rw [Bool.and_false, if_neg Bool.false_ne_true]
        go_enter Tryz.func66, Tryz.ntmps66
        go_wp2_with (first | (go_at_call 67; (with_reducible refine (HP.out _ (StdW.below HS.out HB.out)).mono ?_); rintro e wn ⟨rfl, hb⟩; have HZ := Lib.hid (HZ.out.below hb); have HB := Lib.hid (below_then HB.out HB.out.size hb); obtain ⟨q0, q1, q2, q3, q4, q5, q6, q7, q8⟩ := HZ.out.rq; clear hb) | (go_at_call 33; (with_reducible refine (HT.out _).mono ?_); rintro e wn ⟨rfl, hb⟩; have HZ := Lib.hid (HZ.out.below hb); have HB := Lib.hid (below_then HB.out HB.out.size hb); obtain ⟨q0, q1, q2, q3, q4, q5, q6, q7, q8⟩ := HZ.out.rq; clear hb) | (go_at_call 49; (with_reducible refine (HH.out _).mono ?_); rintro e wn ⟨rfl, hb⟩; have HZ := Lib.hid (HZ.out.below hb); have HB := Lib.hid (below_then HB.out HB.out.size hb); obtain ⟨q0, q1, q2, q3, q4, q5, q6, q7, q8⟩ := HZ.out.rq; clear hb) | (go_at_call 96; (with_reducible refine (HW.out _).mono ?_); rintro e wn ⟨rfl, hb⟩; have HZ := Lib.hid (HZ.out.below hb); have HB := Lib.hid (below_then HB.out HB.out.size hb); obtain ⟨q0, q1, q2, q3, q4, q5, q6, q7, q8⟩ := HZ.out.rq; clear hb) | (go_at_call 117; (with_reducible refine (HUU.out _ (Kd.C_below HR.out HB.out)).mono ?_); rintro e wn ⟨v0, rfl, hb⟩; have HB := Lib.hid (below_then HB.out HB.out.size hb); clear hb))
        go_ret2
        exact ⟨_, rfl, HB.out⟩
      · have hp48 := hpl rfl
        rw [Bool.and_true, if_pos rfl]
        have HUU := Lib.hid (HU.out (line2 m dt p) (by unfold line2; rw [ByteArray.size_append, ByteArray.size_append, ByteArray.size_append, ByteArray.size_append, ByteArray.size_append]; show m.size + 1 + (7 + dt.size + p.size) + 9 ≤ _; omega))
        have e2 : m ++ (⟨#[32, 104, 116, 116, 112, 58, 47, 47]⟩ : ByteArray) ++ dt ++ p ++ ⟨#[32, 72, 84, 84, 80, 47, 49, 46, 49]⟩ = line2 m dt p := line2_r m dt p
        go_enter Tryz.func66, Tryz.ntmps66
        go_wp2_with (first | (go_at_call 67; (with_reducible refine (HP.out _ (StdW.below HS.out HB.out)).mono ?_); rintro e wn ⟨rfl, hb⟩; have HZ := Lib.hid (HZ.out.below hb); have HB := Lib.hid (below_then HB.out HB.out.size hb); obtain ⟨q0, q1, q2, q3, q4, q5, q6, q7, q8⟩ := HZ.out.rq; clear hb) | (go_at_call 33; (with_reducible refine (HT.out _).mono ?_); rintro e wn ⟨rfl, hb⟩; have HZ := Lib.hid (HZ.out.below hb); have HB := Lib.hid (below_then HB.out HB.out.size hb); obtain ⟨q0, q1, q2, q3, q4, q5, q6, q7, q8⟩ := HZ.out.rq; clear hb) | (go_at_call 49; (with_reducible refine (HH.out _).mono ?_); rintro e wn ⟨rfl, hb⟩; have HZ := Lib.hid (HZ.out.below hb); have HB := Lib.hid (below_then HB.out HB.out.size hb); obtain ⟨q0, q1, q2, q3, q4, q5, q6, q7, q8⟩ := HZ.out.rq; clear hb) | (go_at_call 96; (with_reducible refine (HW.out _).mono ?_); rintro e wn ⟨rfl, hb⟩; have HZ := Lib.hid (HZ.out.below hb); have HB := Lib.hid (below_then HB.out HB.out.size hb); obtain ⟨q0, q1, q2, q3, q4, q5, q6, q7, q8⟩ := HZ.out.rq; clear hb) | (go_at_call 117; (with_reducible refine (HUU.out _ (Kd.C_below HR.out HB.out)).mono ?_); rintro e wn ⟨v0, rfl, hb⟩; have HB := Lib.hid (below_then HB.out HB.out.size hb); clear hb))
        go_ret2
        exact ⟨v0, rfl, HB.out⟩
  · rw [if_pos rfl]
    by_cases hp0 : p.size = 0
    · have hpe : p.toList.isEmpty = true := by rw [size_zero]; simpa using hp0
      rw [if_pos hp0]
      have HUU := Lib.hid (HU.out (line1 m dt) (by unfold line1; rw [ByteArray.size_append, ByteArray.size_append, ByteArray.size_append]; show m.size + 1 + dt.size + 9 ≤ _; omega))
      have e2 : (⟨#[67, 79, 78, 78, 69, 67, 84, 32]⟩ : ByteArray) ++ dt ++ ⟨#[32, 72, 84, 84, 80, 47, 49, 46, 49]⟩ = line1 m dt := line1_r m dt hcn
      go_enter Tryz.func66, Tryz.ntmps66
      go_wp2_with (first | (go_at_call 67; (with_reducible refine (HP.out _ (StdW.below HS.out HB.out)).mono ?_); rintro e wn ⟨rfl, hb⟩; have HZ := Lib.hid (HZ.out.below hb); have HB := Lib.hid (below_then HB.out HB.out.size hb); obtain ⟨q0, q1, q2, q3, q4, q5, q6, q7, q8⟩ := HZ.out.rq; clear hb) | (go_at_call 33; (with_reducible refine (HT.out _).mono ?_); rintro e wn ⟨rfl, hb⟩; have HZ := Lib.hid (HZ.out.below hb); have HB := Lib.hid (below_then HB.out HB.out.size hb); obtain ⟨q0, q1, q2, q3, q4, q5, q6, q7, q8⟩ := HZ.out.rq; clear hb) | (go_at_call 49; (with_reducible refine (HH.out _).mono ?_); rintro e wn ⟨rfl, hb⟩; have HZ := Lib.hid (HZ.out.below hb); have HB := Lib.hid (below_then HB.out HB.out.size hb); obtain ⟨q0, q1, q2, q3, q4, q5, q6, q7, q8⟩ := HZ.out.rq; clear hb) | (go_at_call 96; (with_reducible refine (HW.out _).mono ?_); rintro e wn ⟨rfl, hb⟩; have HZ := Lib.hid (HZ.out.below hb); have HB := Lib.hid (below_then HB.out HB.out.size hb); obtain ⟨q0, q1, q2, q3, q4, q5, q6, q7, q8⟩ := HZ.out.rq; clear hb) | (go_at_call 117; (with_reducible refine (HUU.out _ (Kd.C_below HR.out HB.out)).mono ?_); rintro e wn ⟨v0, rfl, hb⟩; have HB := Lib.hid (below_then HB.out HB.out.size hb); clear hb))
      go_ret2
      exact ⟨v0, rfl, HB.out⟩
    · have hpe : p.toList.isEmpty = false := by rw [size_zero]; simpa using hp0
      rw [if_neg hp0]
      go_enter Tryz.func66, Tryz.ntmps66
      go_wp2_with (first | (go_at_call 67; (with_reducible refine (HP.out _ (StdW.below HS.out HB.out)).mono ?_); rintro e wn ⟨rfl, hb⟩; have HZ := Lib.hid (HZ.out.below hb); have HB := Lib.hid (below_then HB.out HB.out.size hb); obtain ⟨q0, q1, q2, q3, q4, q5, q6, q7, q8⟩ := HZ.out.rq; clear hb) | (go_at_call 33; (with_reducible refine (HT.out _).mono ?_); rintro e wn ⟨rfl, hb⟩; have HZ := Lib.hid (HZ.out.below hb); have HB := Lib.hid (below_then HB.out HB.out.size hb); obtain ⟨q0, q1, q2, q3, q4, q5, q6, q7, q8⟩ := HZ.out.rq; clear hb) | (go_at_call 49; (with_reducible refine (HH.out _).mono ?_); rintro e wn ⟨rfl, hb⟩; have HZ := Lib.hid (HZ.out.below hb); have HB := Lib.hid (below_then HB.out HB.out.size hb); obtain ⟨q0, q1, q2, q3, q4, q5, q6, q7, q8⟩ := HZ.out.rq; clear hb) | (go_at_call 96; (with_reducible refine (HW.out _).mono ?_); rintro e wn ⟨rfl, hb⟩; have HZ := Lib.hid (HZ.out.below hb); have HB := Lib.hid (below_then HB.out HB.out.size hb); obtain ⟨q0, q1, q2, q3, q4, q5, q6, q7, q8⟩ := HZ.out.rq; clear hb) | (go_at_call 117; (with_reducible refine (HUU.out _ (Kd.C_below HR.out HB.out)).mono ?_); rintro e wn ⟨v0, rfl, hb⟩; have HB := Lib.hid (below_then HB.out HB.out.size hb); clear hb))
      go_ret2
      exact ⟨_, rfl, HB.out⟩
end Go.Proofs.YtaakgjbdknobbaaGreatDoor.E


namespace Go.Proofs.YtaakgjbdknobbaaGreatDoor.E
open Go.RowKit Go.Proofs.YtaakgjbdknobbaaGreatDoorW.PrintWords Go.Proofs.YtaakgjbdknobbaaGreatDoorW.PrintLast Go.Proofs.YtaakgjbdknobbaaGreatDoor.XK Go.Proofs.YtaakgjbdknobbaaGreatDoor.XA Go.Proofs.YtaakgjbdknobbaaGreatDoor.XD Go.Proofs.YtaakgjbdknobbaaGreatDoor.XY Go.Proofs.YtaakgjbdknobbaaGreatDoor.XZ
set_option linter.unusedVariables false
set_option linter.unusedSimpArgs false
def keyT (dt m p : ByteArray) (l : List S78) : ByteArray × Int :=
  if (preqT dt m p l).2 = 0 then (if m.toList == ([71, 69, 84] : List UInt8) then (dt ++ p, 0) else (⟨#[]⟩, 2)) else (⟨#[]⟩, 2)
theorem key_f (m : ByteArray) (a b c d : Int) (n : ByteArray) (po : Int) (p : ByteArray) (l : List S78) (hk : okRq m a b c d n p l) : fields_Key.f m a b c d n po p l = some (keyT (printDestB a b c d n po) m p l) := by
  obtain ⟨hb, hn, hm, hp, hl⟩ := hk
  unfold fields_Key.f preq.f keyT
  rw [if_pos ⟨hb, hn, hm, hp, hl⟩, Option.bind_some]
  by_cases he : (preqT (printDestB a b c d n po) m p l).2 = 0
  · rw [if_pos he, if_pos he]
    by_cases hg : m.toList = ([71, 69, 84] : List UInt8)
    · have hz := pdB_size a b c d n po hb
      rw [if_pos hg, if_pos (by rw [hg]; rfl), show hPrintDest.f a b c d n po = some (printDestB a b c d n po) by unfold hPrintDest.f; rw [if_pos ⟨hb.1, hb.2.1, hb.2.2.1, hb.2.2.2, hn⟩], Option.bind_some, if_pos (by omega)]
    · rw [if_neg hg, if_neg (by rw [beq_iff_eq]; exact hg)]
  · rw [if_neg he, if_neg he]
theorem preq_code (dt m p : ByteArray) (l : List S78) : (preqT dt m p l).2 = 0 ∨ (preqT dt m p l).2 = 2 ∨ (preqT dt m p l).2 = 3 := by
  unfold preqT
  have h1 := putB_code (line1 m dt) l
  have h2 := putB_code (line2 m dt p) l
  repeat' split
  all_goals first | exact .inr (.inl rfl) | exact h1 | exact h2
set_option maxRecDepth 100000 in
set_option maxHeartbeats 16000000 in
theorem rkey_walk (m : ByteArray) (a b c d : Int) (n : ByteArray) (po : Int) (p : ByteArray) (A0 : Option Addr) (c0 : Nat) (l : List S78) (dt : ByteArray) (w : World) (hS : StdW w) (hR : Kd.C k78 w A0 l.length l) (hc : l.length ≤ c0) (hok : okLv l = true)
    (hm : m.size ≤ 281474976710656) (hp : p.size ≤ 281474976710656) (hto : dt.size ≤ 300)
    (HPD : ∀ W, StdW W → Calls Tryz.prog 67 #[.agg #[.int .u8 a, .int .u8 b, .int .u8 c, .int .u8 d, .string n, .int .i64 po]] W fun e w' => e = .returned (.string dt) ∧ Below W.heap.size W w') :
    Calls Tryz.prog 19 #[.agg #[.string m, .int .u8 a, .int .u8 b, .int .u8 c, .int .u8 d, .string n, .int .i64 po, .string p, .slice A0 l.length c0]] w fun e w' => e = .returned (.tuple #[.string (keyT dt m p l).1, .int .i64 (keyT dt m p l).2]) ∧ Below w.heap.size w w' := by
  have HS := Lib.hid hS
  have HR := Lib.hid hR
  have HP := Lib.hid HPD
  have HQ := Lib.hid (fun W (h : StdW W) (hr : Kd.C k78 W A0 l.length l) => rpreq_walk m a b c d n po p A0 c0 l dt W h hr hc hok hm hp hto HPD)
  have HZ := Lib.hid (Blk.new w (rqC m a b c d n po p A0 l.length c0) 30)
  have HB := Lib.hid (below_alloc (Below.refl w.heap.size w) (.cells (rqC m a b c d n po p A0 l.length c0) 30))
  obtain ⟨q0, q1, q2, q3, q4, q5, q6, q7, q8⟩ := HZ.out.rq
  clear hS hR HPD hm hok
  unfold keyT
  have hcode := preq_code dt m p l
  generalize (preqT dt m p l).2 = z at HQ hcode ⊢
  cases hg : (m.toList == [71, 69, 84])
  · rw [show (if z = 0 then (if false = true then (dt ++ p, (0 : Int)) else (⟨#[]⟩, 2)) else (⟨#[]⟩, 2)) = ((⟨#[]⟩ : ByteArray), (2 : Int)) by split <;> rfl]
    go_enter Tryz.func19, Tryz.ntmps19
    go_wp2_with (first | (go_at_call 66; (with_reducible refine (HQ.out _ (StdW.below HS.out HB.out) (Kd.C_below HR.out HB.out)).mono ?_); rintro e wn ⟨v0, rfl, hb⟩; have HZ := Lib.hid (HZ.out.below hb); have HB := Lib.hid (below_then HB.out HB.out.size hb); obtain ⟨q0, q1, q2, q3, q4, q5, q6, q7, q8⟩ := HZ.out.rq; clear hb) | (go_at_call 67; (with_reducible refine (HP.out _ (StdW.below HS.out HB.out)).mono ?_); rintro e wn ⟨rfl, hb⟩; have HZ := Lib.hid (HZ.out.below hb); have HB := Lib.hid (below_then HB.out HB.out.size hb); obtain ⟨q0, q1, q2, q3, q4, q5, q6, q7, q8⟩ := HZ.out.rq; clear hb))
    go_ret2
    exact ⟨rfl, HB.out⟩
  · rcases hcode with rfl | rfl | rfl
    · rw [if_pos rfl, if_pos rfl]
      go_enter Tryz.func19, Tryz.ntmps19
      go_wp2_with (first | (go_at_call 66; (with_reducible refine (HQ.out _ (StdW.below HS.out HB.out) (Kd.C_below HR.out HB.out)).mono ?_); rintro e wn ⟨v0, rfl, hb⟩; have HZ := Lib.hid (HZ.out.below hb); have HB := Lib.hid (below_then HB.out HB.out.size hb); obtain ⟨q0, q1, q2, q3, q4, q5, q6, q7, q8⟩ := HZ.out.rq; clear hb) | (go_at_call 67; (with_reducible refine (HP.out _ (StdW.below HS.out HB.out)).mono ?_); rintro e wn ⟨rfl, hb⟩; have HZ := Lib.hid (HZ.out.below hb); have HB := Lib.hid (below_then HB.out HB.out.size hb); obtain ⟨q0, q1, q2, q3, q4, q5, q6, q7, q8⟩ := HZ.out.rq; clear hb))
      go_region_with (first | (go_at_call 67; refine (HP.out _ (StdW.below HS.out (below_drew1 HB.out))).mono ?_; rintro e wn ⟨rfl, hbd⟩; have hb := below_of_drew hbd; have HZ := Lib.hid (HZ.out.below hb); have HB := Lib.hid (below_then HB.out HB.out.size hb); obtain ⟨q0, q1, q2, q3, q4, q5, q6, q7, q8⟩ := HZ.out.rq; clear hb hbd))
      all_goals (go_wp2; go_ret2; exact ⟨rfl, HB.out⟩)
    · rw [if_neg (by decide)]
      go_enter Tryz.func19, Tryz.ntmps19
      go_wp2_with (first | (go_at_call 66; (with_reducible refine (HQ.out _ (StdW.below HS.out HB.out) (Kd.C_below HR.out HB.out)).mono ?_); rintro e wn ⟨v0, rfl, hb⟩; have HZ := Lib.hid (HZ.out.below hb); have HB := Lib.hid (below_then HB.out HB.out.size hb); obtain ⟨q0, q1, q2, q3, q4, q5, q6, q7, q8⟩ := HZ.out.rq; clear hb) | (go_at_call 67; (with_reducible refine (HP.out _ (StdW.below HS.out HB.out)).mono ?_); rintro e wn ⟨rfl, hb⟩; have HZ := Lib.hid (HZ.out.below hb); have HB := Lib.hid (below_then HB.out HB.out.size hb); obtain ⟨q0, q1, q2, q3, q4, q5, q6, q7, q8⟩ := HZ.out.rq; clear hb))
      go_ret2
      exact ⟨rfl, HB.out⟩
    · rw [if_neg (by decide)]
      go_enter Tryz.func19, Tryz.ntmps19
      go_wp2_with (first | (go_at_call 66; (with_reducible refine (HQ.out _ (StdW.below HS.out HB.out) (Kd.C_below HR.out HB.out)).mono ?_); rintro e wn ⟨v0, rfl, hb⟩; have HZ := Lib.hid (HZ.out.below hb); have HB := Lib.hid (below_then HB.out HB.out.size hb); obtain ⟨q0, q1, q2, q3, q4, q5, q6, q7, q8⟩ := HZ.out.rq; clear hb) | (go_at_call 67; (with_reducible refine (HP.out _ (StdW.below HS.out HB.out)).mono ?_); rintro e wn ⟨rfl, hb⟩; have HZ := Lib.hid (HZ.out.below hb); have HB := Lib.hid (below_then HB.out HB.out.size hb); obtain ⟨q0, q1, q2, q3, q4, q5, q6, q7, q8⟩ := HZ.out.rq; clear hb))
      go_ret2
      exact ⟨rfl, HB.out⟩
theorem rkey_any (m : ByteArray) (a b c d : Int) (n : ByteArray) (po : Int) (p : ByteArray) (A0 : Option Addr) (c0 : Nat) (l : List S78) (w : World) (hS : StdW w) (hR : Kd.C k78 w A0 l.length l) (hc : l.length ≤ c0) (hk : okRq m a b c d n p l) :
    Calls Tryz.prog 19 #[.agg #[.string m, .int .u8 a, .int .u8 b, .int .u8 c, .int .u8 d, .string n, .int .i64 po, .string p, .slice A0 l.length c0]] w fun e w' => e = .returned (.tuple #[.string (keyT (printDestB a b c d n po) m p l).1, .int .i64 (keyT (printDestB a b c d n po) m p l).2]) ∧ Below w.heap.size w w' := by
  obtain ⟨hb, hn, hm, hp, hl⟩ := hk
  exact rkey_walk m a b c d n po p A0 c0 l (printDestB a b c d n po) w hS hR hc hl hm hp (pdB_size a b c d n po hb) (fun W hW => rPrintDest.calls a b c d n po _ W hW (by unfold rPrintDest.f; rw [if_pos ⟨hb, hn⟩]))
theorem key_any (m : ByteArray) (a b c d : Int) (n : ByteArray) (po : Int) (p : ByteArray) (A0 : Option Addr) (c0 : Nat) (l : List S78) (w : World) (hS : StdW w) (hR : Kd.C k78 w A0 l.length l) (hc : l.length ≤ c0) (hk : okRq m a b c d n p l) :
    Calls Tryz.prog 15 #[.agg #[.string m, .int .u8 a, .int .u8 b, .int .u8 c, .int .u8 d, .string n, .int .i64 po, .string p, .slice A0 l.length c0]] w fun e w' => e = .returned (.tuple #[.string (keyT (printDestB a b c d n po) m p l).1, .int .i64 (keyT (printDestB a b c d n po) m p l).2]) ∧ Below w.heap.size w w' :=
  fields_Key.calls m a b c d n po p A0 c0 l _ _ w hR hc hS (key_f m a b c d n po p l hk)
end Go.Proofs.YtaakgjbdknobbaaGreatDoor.E


namespace Go.Proofs.YtaakgjbdknobbaaGreatDoor.E
open Go.RowKit Go.Proofs.YtaakgjbdknobbaaGreatDoorW.PrintWords Go.Proofs.YtaakgjbdknobbaaGreatDoorW.PrintLast Go.Proofs.YtaakgjbdknobbaaGreatDoor.XK Go.Proofs.YtaakgjbdknobbaaGreatDoor.XA Go.Proofs.YtaakgjbdknobbaaGreatDoor.XD Go.Proofs.YtaakgjbdknobbaaGreatDoor.XY Go.Proofs.YtaakgjbdknobbaaGreatDoor.XZ
set_option linter.unusedVariables false
set_option linter.unusedSimpArgs false
theorem wr64 (n : Nat) (h : n ≤ 2000000) : wrap64 ((n : Int) + 1) = ((n + 1 : Nat) : Int) := by unfold wrap64; omega
theorem sameA_loop (l : List S78) (hl : l.length ≤ 1048577) : ∀ (m k i : Nat), i + m = l.length → m < k → sallyportbase_SameFields.l0 k l l (i : Int) = some true := by
  intro m
  induction m with
  | zero =>
    intro k i hi hk
    obtain ⟨k, rfl⟩ : ∃ j, k = j + 1 := ⟨k - 1, by omega⟩
    simp only [sallyportbase_SameFields.l0]
    rw [if_neg (by omega)]
  | succ m ih =>
    intro k i hi hk
    obtain ⟨k, rfl⟩ : ∃ j, k = j + 1 := ⟨k - 1, by omega⟩
    simp only [sallyportbase_SameFields.l0]
    rw [if_pos (by omega), if_pos (by omega), if_pos (by omega), if_neg (by simp), wr64 i (by omega)]
    exact ih k (i + 1) (by omega) (by omega)
theorem sameA_f (l : List S78) (hl : l.length ≤ 1048577) (k : Nat) (hk : l.length < k) : sallyportbase_SameFields.f k l l = some true := by
  unfold sallyportbase_SameFields.f
  rw [if_pos rfl]
  exact sameA_loop l hl l.length k 0 (by omega) (by omega)
theorem same_any (l : List S78) (hl : l.length ≤ 1048577) (w : World) (A0 : Option Addr) (c0 : Nat) (A1 : Option Addr) (c1 : Nat) (hr0 : Kd.C k78 w A0 l.length l) (hc0 : l.length ≤ c0) (hr1 : Kd.C k78 w A1 l.length l) (hc1 : l.length ≤ c1) :
    Calls Tryz.prog 20 #[.slice A0 l.length c0, .slice A1 l.length c1] w fun e w' => e = .returned (.bool true) ∧ Below w.heap.size w w' :=
  (sallyportbase_SameFields.calls (l.length + 1) A0 c0 l A1 c1 l true w hr0 hc0 hr1 hc1 (sameA_f l hl _ (Nat.lt_succ_self _))).mono fun e w' ⟨h, d⟩ => ⟨h, d.below⟩
theorem fieldsA_f (l : List S78) (hl : l.length ≤ 1048576) : sallyportbase_Fields.f l = some l := by
  unfold sallyportbase_Fields.f
  rw [Option.bind_some, if_pos (by rw [List.length_nil]; omega)]
  rfl
theorem fieldsA_any (l : List S78) (hl : l.length ≤ 1048576) (A0 : Option Addr) (c0 : Nat) (hc : l.length ≤ c0) (w : World) (hr : Kd.C k78 w A0 l.length l) :
    Calls Tryz.prog 16 #[.slice A0 l.length c0] w fun e w' => ∃ v0_ : Value, e = .returned (v0_) ∧ Kd.R k78 78 w' w.heap.size (fun _ => True) v0_ l ∧ Below w.heap.size w w' :=
  sallyportbase_Fields.calls A0 c0 l l w hr hc (fieldsA_f l hl)
theorem radd_f (l : List S78) (nm va : ByteArray) (hl : l.length ≤ 1048576) (hnm : nm.size ≤ 281474976710656) (hva : va.size < 4294967281) : sallyportref13_Add.f 281474976710700 l nm va = some (addT l nm va) := by
  unfold sallyportref13_Add.f addT
  rw [rtoken_f nm hnm _ (by omega), Option.bind_some, rvalue_f va (by omega) _ (by omega), Option.bind_some]
  have hj : ∀ b : Bool, sallyportref13_Add.j0 281474976710700 l nm va b = some (if b = true then ([], 2) else if 64 ≤ l.length then ([], 3) else (l ++ [⟨nm, va⟩], 0)) := fun b => by
    rw [show (281474976710700 : Nat) = 281474976710699 + 1 from rfl]
    simp only [sallyportref13_Add.j0]
    cases b
    · rw [if_neg Bool.false_ne_true, if_neg Bool.false_ne_true]
      by_cases h : 64 ≤ l.length
      · rw [if_pos (by omega), if_pos h]
      · rw [if_neg (by omega), if_neg h, fieldsA_f l hl, Option.bind_some, if_pos (by omega)]
    · rw [if_pos rfl, if_pos rfl]
  rw [hj, hj]
  cases tokB nm <;> cases valB va <;> rfl
theorem addT_len (l : List S78) (nm va : ByteArray) (hl : l.length ≤ 1048576) : (addT l nm va).1.length ≤ 1048577 := by
  unfold addT
  split
  · split
    · exact Nat.zero_le _
    · rw [List.length_append]; exact Nat.add_le_add hl (Nat.le_refl 1)
  · exact Nat.zero_le _
set_option maxRecDepth 100000 in
set_option maxHeartbeats 16000000 in
theorem adds_walk (A0 : Option Addr) (c0 : Nat) (l : List S78) (nm va m : ByteArray) (a b c d : Int) (n : ByteArray) (po : Int) (p : ByteArray) (A1 : Option Addr) (c1 : Nat) (lr : List S78) (La : List S78) (z : Int) (kk : ByteArray) (zz : Int)
    (w : World) (hS : StdW w) (hr : Kd.C k78 w A0 l.length l) (hc : l.length ≤ c0) (hq : Kd.C k78 w A1 lr.length lr) (hl : l.length ≤ 1048577) (hLa : La.length ≤ 1048577)
    (HF0 : ∀ W, Kd.C k78 W A0 l.length l → Calls Tryz.prog 16 #[.slice A0 l.length c0] W fun e w' => ∃ v0_ : Value, e = .returned (v0_) ∧ Kd.R k78 78 w' W.heap.size (fun _ => True) v0_ l ∧ Below W.heap.size W w')
    (HA0 : ∀ W A k, StdW W → Kd.C k78 W A l.length l → Calls Tryz.prog 17 #[.slice A l.length k, .string nm, .string va] W (AddPost (La, z) W))
    (HR0 : ∀ W, Kd.C k78 W A0 l.length l → Calls Tryz.prog 18 #[.slice A0 l.length c0, .string nm, .string va] W (AddPost (La, z) W))
    (HK0 : ∀ W, StdW W → Kd.C k78 W A1 lr.length lr → Calls Tryz.prog 15 #[.agg #[.string m, .int .u8 a, .int .u8 b, .int .u8 c, .int .u8 d, .string n, .int .i64 po, .string p, .slice A1 lr.length c1]] W fun e w' => e = .returned (.tuple #[.string kk, .int .i64 zz]) ∧ Below W.heap.size W w')
    (HRK0 : ∀ W, StdW W → Kd.C k78 W A1 lr.length lr → Calls Tryz.prog 19 #[.agg #[.string m, .int .u8 a, .int .u8 b, .int .u8 c, .int .u8 d, .string n, .int .i64 po, .string p, .slice A1 lr.length c1]] W fun e w' => e = .returned (.tuple #[.string kk, .int .i64 zz]) ∧ Below W.heap.size W w') :
    Calls Tryz.prog 4 #[.slice A0 l.length c0, .string nm, .string va, .agg #[.string m, .int .u8 a, .int .u8 b, .int .u8 c, .int .u8 d, .string n, .int .i64 po, .string p, .slice A1 lr.length c1]] w fun r w' => r = .returned (.bool true) ∧ Below w.heap.size w w' := by
  have HS := Lib.hid hS
  have HF := Lib.hid HF0
  have HA := Lib.hid HA0
  have HRA := Lib.hid HR0
  have HK := Lib.hid HK0
  have HRK := Lib.hid HRK0
  have HSM := Lib.hid same_any
  have HW := Lib.hid works13_any
  have HZ := Lib.hid (Blk.new w (rqC m a b c d n po p A1 lr.length c1) 30)
  have HB := Lib.hid (below_alloc (Below.refl w.heap.size w) (.cells (rqC m a b c d n po p A1 lr.length c1) 30))
  have HR := Lib.hid (Kd.C_alloc hr (.cells (rqC m a b c d n po p A1 lr.length c1) 30))
  have HQ := Lib.hid (Kd.C_alloc hq (.cells (rqC m a b c d n po p A1 lr.length c1) 30))
  obtain ⟨q0, q1, q2, q3, q4, q5, q6, q7, q8⟩ := HZ.out.rq
  clear hS hr hq HF0 HA0 HR0 HK0 HRK0
  go_enter Tryz.func4, Tryz.ntmps4
  go_wp2_with (first | (go_at_call 16; (with_reducible refine (HF.out _ HR.out).mono ?_); rintro e wn ⟨v9, rfl, hr, hb⟩; have HZ := Lib.hid (HZ.out.below hb); have HR := Lib.hid (Kd.C_below HR.out hb); have HQ := Lib.hid (Kd.C_below HQ.out hb); have HB := Lib.hid (below_then HB.out HB.out.size hb); obtain ⟨A9, c9, rfl, hc9, hC⟩ := Kd.R_reads hr; have H9 := Lib.hid hC; clear hr hC; obtain ⟨q0, q1, q2, q3, q4, q5, q6, q7, q8⟩ := HZ.out.rq; clear hb) | (go_at_call 17; (with_reducible refine (HA.out _ A9 c9 (StdW.below HS.out HB.out) H9.out).mono ?_); rintro e wn ⟨v10, rfl, hr, hb⟩; have HZ := Lib.hid (HZ.out.below hb); have HR := Lib.hid (Kd.C_below HR.out hb); have HQ := Lib.hid (Kd.C_below HQ.out hb); have H9 := Lib.hid (Kd.C_below H9.out hb); have HB := Lib.hid (below_then HB.out HB.out.size hb); obtain ⟨A10, c10, rfl, hc10, hC⟩ := Kd.R_reads hr; have H10 := Lib.hid hC; clear hr hC; obtain ⟨q0, q1, q2, q3, q4, q5, q6, q7, q8⟩ := HZ.out.rq; clear hb) | (go_at_call 18; (with_reducible refine (HRA.out _ HR.out).mono ?_); rintro e wn ⟨v12, rfl, hr, hb⟩; have HZ := Lib.hid (HZ.out.below hb); have HR := Lib.hid (Kd.C_below HR.out hb); have HQ := Lib.hid (Kd.C_below HQ.out hb); have H9 := Lib.hid (Kd.C_below H9.out hb); have H10 := Lib.hid (Kd.C_below H10.out hb); have HB := Lib.hid (below_then HB.out HB.out.size hb); obtain ⟨A12, c12, rfl, hc12, hC⟩ := Kd.R_reads hr; have H12 := Lib.hid hC; clear hr hC; obtain ⟨q0, q1, q2, q3, q4, q5, q6, q7, q8⟩ := HZ.out.rq; clear hb) | (go_at_call 15; (with_reducible refine (HK.out _ (StdW.below HS.out HB.out) HQ.out).mono ?_); rintro e wn ⟨rfl, hb⟩; have HZ := Lib.hid (HZ.out.below hb); have HR := Lib.hid (Kd.C_below HR.out hb); have HQ := Lib.hid (Kd.C_below HQ.out hb); have H9 := Lib.hid (Kd.C_below H9.out hb); have H10 := Lib.hid (Kd.C_below H10.out hb); have H12 := Lib.hid (Kd.C_below H12.out hb); have HB := Lib.hid (below_then HB.out HB.out.size hb); obtain ⟨q0, q1, q2, q3, q4, q5, q6, q7, q8⟩ := HZ.out.rq; clear hb) | (go_at_call 19; (with_reducible refine (HRK.out _ (StdW.below HS.out HB.out) HQ.out).mono ?_); rintro e wn ⟨rfl, hb⟩; have HZ := Lib.hid (HZ.out.below hb); have HR := Lib.hid (Kd.C_below HR.out hb); have HQ := Lib.hid (Kd.C_below HQ.out hb); have H9 := Lib.hid (Kd.C_below H9.out hb); have H10 := Lib.hid (Kd.C_below H10.out hb); have H12 := Lib.hid (Kd.C_below H12.out hb); have HB := Lib.hid (below_then HB.out HB.out.size hb); obtain ⟨q0, q1, q2, q3, q4, q5, q6, q7, q8⟩ := HZ.out.rq; clear hb) | (go_at_call 20; (with_reducible refine (HSM.out La hLa _ A10 c10 A12 c12 H10.out hc10 H12.out hc12).mono ?_); rintro e wn ⟨rfl, hb⟩; have HZ := Lib.hid (HZ.out.below hb); have HR := Lib.hid (Kd.C_below HR.out hb); have HQ := Lib.hid (Kd.C_below HQ.out hb); have H9 := Lib.hid (Kd.C_below H9.out hb); have HB := Lib.hid (below_then HB.out HB.out.size hb); obtain ⟨q0, q1, q2, q3, q4, q5, q6, q7, q8⟩ := HZ.out.rq; clear hb) | (go_at_call 20; (with_reducible refine (HSM.out l hl _ A9 c9 A0 c0 H9.out hc9 HR.out hc).mono ?_); rintro e wn ⟨rfl, hb⟩; have HZ := Lib.hid (HZ.out.below hb); have HR := Lib.hid (Kd.C_below HR.out hb); have HQ := Lib.hid (Kd.C_below HQ.out hb); have HB := Lib.hid (below_then HB.out HB.out.size hb); obtain ⟨q0, q1, q2, q3, q4, q5, q6, q7, q8⟩ := HZ.out.rq; clear hb) | (go_at_call 14; (with_reducible refine (HW.out _ (StdW.below HS.out HB.out)).mono ?_); rintro e wn ⟨rfl, hb⟩; have HZ := Lib.hid (HZ.out.below hb); have HB := Lib.hid (below_then HB.out HB.out.size hb); obtain ⟨q0, q1, q2, q3, q4, q5, q6, q7, q8⟩ := HZ.out.rq; clear hb))
  go_ret
  exact ⟨rfl, HB.out⟩
def okAdd (l : List S78) (nm va : ByteArray) : Prop := l.length ≤ 1048576 ∧ nm.size ≤ 281474976710656 ∧ va.size < 4294967281
instance (l : List S78) (nm va : ByteArray) : Decidable (okAdd l nm va) := by unfold okAdd; exact inferInstance
def pAdds.f (l : List S78) (nm va m : ByteArray) (a b c d : Int) (n : ByteArray) (po : Int) (p : ByteArray) (lr : List S78) : Option Bool :=
  if okAdd l nm va ∧ okRq m a b c d n p lr then some true else none
theorem pAdds.calls (A0 : Option Addr) (c0 : Nat) (l : List S78) (nm va m : ByteArray) (a b c d : Int) (n : ByteArray) (po : Int) (p : ByteArray) (A1 : Option Addr) (c1 : Nat) (lr : List S78) (r : Bool) (w : World)
    (hr : Kd.C k78 w A0 l.length l) (hc : l.length ≤ c0) (hq : Kd.C k78 w A1 lr.length lr) (hcq : lr.length ≤ c1) (hS : StdW w) (h : pAdds.f l nm va m a b c d n po p lr = some r) :
    Calls Tryz.prog 4 #[.slice A0 l.length c0, .string nm, .string va, .agg #[.string m, .int .u8 a, .int .u8 b, .int .u8 c, .int .u8 d, .string n, .int .i64 po, .string p, .slice A1 lr.length c1]] w fun e w' => e = .returned (.bool r) ∧ Below w.heap.size w w' := by
  unfold pAdds.f at h
  split at h
  · rename_i hh
    obtain ⟨⟨h1, h2, h3⟩, h4⟩ := hh
    obtain rfl := Option.some.inj h
    exact adds_walk A0 c0 l nm va m a b c d n po p A1 c1 lr (addT l nm va).1 (addT l nm va).2 _ _ w hS hr hc hq (by omega) (addT_len l nm va h1)
      (fun W hW => fieldsA_any l h1 A0 c0 hc W hW)
      (fun W A k hW hC => add_any A k l nm va W hW hC (by omega) h2 h3)
      (fun W hC => sallyportref13_Add.calls 281474976710700 A0 c0 l nm va (addT l nm va).1 (addT l nm va).2 W hC hc (radd_f l nm va h1 h2 h3))
      (fun W hW hC => key_any m a b c d n po p A1 c1 lr W hW hC hcq h4)
      (fun W hW hC => rkey_any m a b c d n po p A1 c1 lr W hW hC hcq h4)
  · cases h
theorem fieldsAdds_law (l : List S78) (nm va m : ByteArray) (a b c d : Int) (n : ByteArray) (po : Int) (p : ByteArray) (lr : List S78) (h : okAdd l nm va) (h' : okRq m a b c d n p lr) : pAdds.f l nm va m a b c d n po p lr = some true := by
  unfold pAdds.f; rw [if_pos ⟨h, h'⟩]
def smallA (l : List S78) : Prop := l.length ≤ 1048577 ∧ ∀ f ∈ l, f.f0.size ≤ 1048576 ∧ f.f1.size ≤ 1048576
theorem fieldsAdds_lawU (l : List S78) (nm va m : ByteArray) (a b c d : Int) (n : ByteArray) (po : Int) (p : ByteArray) (lr : List S78) (_ : smallA l) (h1 : l.length ≤ 1048576) (h2 : nm.size ≤ 281474976710656) (_ : nm.size < 4294967281) (_ : va.size ≤ 281474976710656) (h3 : va.size < 4294967281) (h' : okRq m a b c d n p lr) : pAdds.f l nm va m a b c d n po p lr = some true :=
  fieldsAdds_law l nm va m a b c d n po p lr ⟨h1, h2, h3⟩ h'
end Go.Proofs.YtaakgjbdknobbaaGreatDoor.E


namespace Go.Proofs.YtaakgjbdknobbaaGreatDoor.E
open Go.RowKit Go.ChangeShapes Go.WideShapes Go.Deep Go.Proofs.YtaakgjbdknobbaaGreatDoorW.PrintWords Go.Proofs.YtaakgjbdknobbaaGreatDoorW.PrintLast Go.Proofs.YtaakgjbdknobbaaGreatDoor.XK
set_option linter.unusedVariables false
set_option linter.unusedSimpArgs false
section
variable {H : Type} {enc : TypeId × Value → H} {w : World} {base : Nat} {spare : Nat → Bool} {held : Bool}
theorem cellsFld : Tryz.prog.cellsOf 78 = 2 := by kernel_rfl
theorem cellsStr : Tryz.prog.cellsOf 9 = 1 := by kernel_rfl
def okI (n : Int) : Prop := -9223372036854775808 ≤ n ∧ n ≤ 9223372036854775807
theorem wf_i64 {n : Int} (h : (Lit.int .i64 n).wf = true) : okI n := by
  simp only [Lit.wf, Bool.and_eq_true, decide_eq_true_eq] at h
  exact ⟨h.1, h.2⟩
theorem bulk_pos (d : DataW H) : 1 ≤ Rows.uptoBulk d := by
  cases d with
  | lit l => cases l <;> simp [Rows.uptoBulk]
  | _ => simp [Rows.uptoBulk]
theorem bulk_mem : ∀ {ds : List (DataW H)} {d : DataW H}, d ∈ ds → Rows.uptoBulk d ≤ Rows.uptoBulkAll ds
  | d0 :: ds, d, h => by
    simp only [Rows.uptoBulkAll]
    rcases List.mem_cons.1 h with rfl | h
    · omega
    · have := bulk_mem h; omega
theorem bulk_len : ∀ ds : List (DataW H), ds.length ≤ Rows.uptoBulkAll ds
  | [] => Nat.zero_le _
  | d :: ds => by
    simp only [Rows.uptoBulkAll, List.length_cons]
    have := bulk_pos d; have := bulk_len ds; omega
theorem two_of {α : Type} {l : List α} (h : l.length = 2) : ∃ a b, l = [a, b] := by
  match l, h with
  | [a, b], _ => exact ⟨a, b, rfl⟩
theorem open_field {fuel : Nat} {cs : List Value} {x : DataW H × List MemPlace} (h : DataW.trod enc Tryz.prog w base spare held fuel 78 cs = some x) :
    ∃ r : S78, cs = [.string r.f0, .string r.f1] ∧ r.f0.size ≤ Rows.uptoBulk x.1 ∧ r.f1.size ≤ Rows.uptoBulk x.1 := by
  obtain ⟨xs, n, -, hx, hl, hxl, hf⟩ := DataW.trod_struct Tryz.underlying78 h
  obtain ⟨v0, v1, rfl⟩ := two_of (hl.trans cellsFld)
  obtain ⟨y0, y1, rfl⟩ := two_of (show xs.length = 2 from hxl)
  have g0 : DataW.trod enc Tryz.prog w base spare held n 9 ((([v0, v1] : List Value).drop 0).take (Tryz.prog.cellsOf 9)) = some y0 := hf 0 _ rfl
  have g1 : DataW.trod enc Tryz.prog w base spare held n 9 ((([v0, v1] : List Value).drop 1).take (Tryz.prog.cellsOf 9)) = some y1 := hf 1 _ rfl
  simp only [cellsStr, List.drop_zero, List.drop_succ_cons, List.take_succ_cons, List.take_zero] at g0 g1
  obtain ⟨a, ea, ha, -⟩ := DataW.trod_string Tryz.underlying9 g0
  obtain ⟨b, eb, hb, -⟩ := DataW.trod_string Tryz.underlying9 g1
  cases ea; cases eb
  refine ⟨⟨a, b⟩, rfl, ?_⟩
  have e0 : Rows.uptoBulk y0.1 = a.size + 1 := by rw [ha]; simp only [Rows.uptoBulk]; rw [Lib.size_eq]
  have e1 : Rows.uptoBulk y1.1 = b.size + 1 := by rw [hb]; simp only [Rows.uptoBulk]; rw [Lib.size_eq]
  rw [hx]
  simp only [Rows.uptoBulk, Rows.uptoBulkAll, List.map_cons, List.map_nil, e0, e1]
  omega
theorem open_fields {t : TypeId} (ht : Tryz.prog.underlying t = some (.slice 78)) {fuel : Nat} {cs : List Value} {x : DataW H × List MemPlace} (h : DataW.trod enc Tryz.prog w base spare held fuel t cs = some x) :
    ∃ (A : Option Addr) (c : Nat) (l : List S78), cs = [.slice A l.length c] ∧ l.length ≤ c ∧ Kd.C k78 w A l.length l ∧ l.length ≤ Rows.uptoBulk x.1 ∧ ∀ r ∈ l, r.f0.size ≤ Rows.uptoBulk x.1 ∧ r.f1.size ≤ Rows.uptoBulk x.1 := by
  rcases open_slice ht h with ⟨rfl, rfl⟩ | ⟨a, len, cap, m, n, D, Pl, rfl, hb, hl, hm, hmm, hx, hi⟩
  · exact ⟨none, 0, [], rfl, Nat.le_refl _, Kd.C_nil _ _, Nat.zero_le _, fun r hr => by cases hr⟩
  · have hlm : len ≤ m := by rw [hmm]; split <;> omega
    have hi' : ∀ i : Fin len, ∃ r : S78, (r.f0.size ≤ Rows.uptoBulk (D i.1) ∧ r.f1.size ≤ Rows.uptoBulk (D i.1)) ∧ ∀ j, j < 2 → w.cell? (a.add (i.1 * 2 + j)) = ([.string r.f0, .string r.f1] : List Value)[j]? := by
      intro i
      obtain ⟨cs', hc, ht2⟩ := hi i.1 (by omega)
      obtain ⟨r, rfl, hw⟩ := open_field ht2
      obtain ⟨_, _, hat⟩ := World.cells?_some hc
      rw [cellsFld] at hat
      exact ⟨r, hw, fun j hj => by rw [← Go.Deep.add_add]; exact hat j hj⟩
    have hlen : (List.ofFn fun i : Fin len => (hi' i).choose).length = len := List.length_ofFn
    have hbk : ∀ i : Fin len, Rows.uptoBulk (D i.1) ≤ Rows.uptoBulk x.1 := fun i => by
      rw [hx]
      simp only [Rows.uptoBulk]
      have := bulk_mem (ds := (List.range len).map D) (d := D i.1) (List.mem_map.2 ⟨i.1, List.mem_range.2 i.2, rfl⟩)
      omega
    refine ⟨some a, cap, List.ofFn fun i : Fin len => (hi' i).choose, by rw [hlen], by rw [hlen]; exact hl, ?_, ?_, ?_⟩
    · refine ⟨rfl, by rw [hlen]; unfold maxLen at hm; omega, fun _ => ⟨a, rfl, fun j p hj => ?_⟩⟩
      have hjl : j < len := by rw [← hlen]; exact (List.getElem?_eq_some_iff.1 hj).1
      have hp : (hi' ⟨j, hjl⟩).choose = p := by
        rw [List.getElem?_ofFn, dif_pos hjl] at hj
        exact Option.some.inj hj
      subst hp
      refine ⟨_, rfl, k78_mk w _, fun i u hu => ?_⟩
      have hi9 : i < 2 := (List.getElem?_eq_some_iff.1 hu).1
      exact ((hi' ⟨j, hjl⟩).choose_spec.2 i hi9).trans hu
    · rw [hlen, hx]
      simp only [Rows.uptoBulk]
      have := bulk_len ((List.range len).map D)
      rw [List.length_map, List.length_range] at this
      omega
    · intro r hr
      obtain ⟨i, rfl⟩ := List.mem_ofFn.1 hr
      have h1 := (hi' i).choose_spec.1
      have h2 := hbk i
      exact ⟨Nat.le_trans h1.1 h2, Nat.le_trans h1.2 h2⟩
end
end Go.Proofs.YtaakgjbdknobbaaGreatDoor.E


namespace Go.Proofs.YtaakgjbdknobbaaGreatDoor.E
open Go.RowKit Go.ChangeShapes Go.WideShapes Go.Deep Go.Proofs.YtaakgjbdknobbaaGreatDoorW.PrintWords Go.Proofs.YtaakgjbdknobbaaGreatDoorW.PrintLast Go.Proofs.YtaakgjbdknobbaaGreatDoor.XK
set_option linter.unusedVariables false
set_option linter.unusedSimpArgs false
section
variable {H : Type} {enc : TypeId × Value → H} {w : World} {base : Nat} {spare : Nat → Bool} {held : Bool}
theorem cellsAddr : Tryz.prog.cellsOf 23 = 4 := by kernel_rfl
theorem cellsHost : Tryz.prog.cellsOf 25 = 5 := by kernel_rfl
theorem cellsDest : Tryz.prog.cellsOf 27 = 6 := by kernel_rfl
theorem cellsReq : Tryz.prog.cellsOf 30 = 9 := by kernel_rfl
theorem cellsFlds : Tryz.prog.cellsOf 28 = 1 := by kernel_rfl
theorem cellsU8 : Tryz.prog.cellsOf 5 = 1 := by kernel_rfl
theorem cellsInt : Tryz.prog.cellsOf 3 = 1 := by kernel_rfl
def inU8 (a : Int) : Prop := 0 ≤ a ∧ a ≤ 255
theorem four_of {l : List Value} (h : l.length = 4) : ∃ a b c d, l = [a, b, c, d] := by
  match l, h with
  | [a, b, c, d], _ => exact ⟨a, b, c, d, rfl⟩
theorem open_addr {fuel : Nat} {cs : List Value} {x : DataW H × List MemPlace} (h : DataW.trod enc Tryz.prog w base spare held fuel 23 cs = some x) :
    ∃ a b c d, cs = [.int .u8 a, .int .u8 b, .int .u8 c, .int .u8 d] ∧ inU8 a ∧ inU8 b ∧ inU8 c ∧ inU8 d := by
  obtain ⟨xs, n, -, -, hl, hxl, hf⟩ := DataW.trod_struct Tryz.underlying23 h
  obtain ⟨v0, v1, v2, v3, rfl⟩ := four_of (hl.trans cellsAddr)
  obtain ⟨y0, h0⟩ : ∃ y, xs[0]? = some y := ⟨_, List.getElem?_eq_getElem (by rw [hxl]; decide)⟩
  obtain ⟨y1, h1⟩ : ∃ y, xs[1]? = some y := ⟨_, List.getElem?_eq_getElem (by rw [hxl]; decide)⟩
  obtain ⟨y2, h2⟩ : ∃ y, xs[2]? = some y := ⟨_, List.getElem?_eq_getElem (by rw [hxl]; decide)⟩
  obtain ⟨y3, h3⟩ : ∃ y, xs[3]? = some y := ⟨_, List.getElem?_eq_getElem (by rw [hxl]; decide)⟩
  have g0 : DataW.trod enc Tryz.prog w base spare held n 5 ((([v0, v1, v2, v3] : List Value).drop 0).take (Tryz.prog.cellsOf 5)) = xs[0]? := hf 0 _ rfl
  have g1 : DataW.trod enc Tryz.prog w base spare held n 5 ((([v0, v1, v2, v3] : List Value).drop 1).take (Tryz.prog.cellsOf 5)) = xs[1]? := hf 1 _ rfl
  have g2 : DataW.trod enc Tryz.prog w base spare held n 5 ((([v0, v1, v2, v3] : List Value).drop 2).take (Tryz.prog.cellsOf 5)) = xs[2]? := hf 2 _ rfl
  have g3 : DataW.trod enc Tryz.prog w base spare held n 5 ((([v0, v1, v2, v3] : List Value).drop 3).take (Tryz.prog.cellsOf 5)) = xs[3]? := hf 3 _ rfl
  simp only [cellsU8, List.drop_zero, List.drop_succ_cons, List.take_succ_cons, List.take_zero] at g0 g1 g2 g3
  rw [h0] at g0; rw [h1] at g1; rw [h2] at g2; rw [h3] at g3
  obtain ⟨a, ea, -, ha⟩ := DataW.trod_int Tryz.underlying5 g0
  obtain ⟨b, eb, -, hb⟩ := DataW.trod_int Tryz.underlying5 g1
  obtain ⟨c, ec, -, hc⟩ := DataW.trod_int Tryz.underlying5 g2
  obtain ⟨d, ed, -, hd⟩ := DataW.trod_int Tryz.underlying5 g3
  cases ea; cases eb; cases ec; cases ed
  exact ⟨a, b, c, d, rfl, bounds_u8 ha, bounds_u8 hb, bounds_u8 hc, bounds_u8 hd⟩
theorem six_of {l : List Value} (h : l.length = 6) : ∃ a b c d e f, l = [a, b, c, d, e, f] := by
  match l, h with
  | [a, b, c, d, e, f], _ => exact ⟨a, b, c, d, e, f, rfl⟩
theorem five_of {l : List Value} (h : l.length = 5) : ∃ a b c d e, l = [a, b, c, d, e] := by
  match l, h with
  | [a, b, c, d, e], _ => exact ⟨a, b, c, d, e, rfl⟩
theorem four_ofX {α : Type} {l : List α} (h : l.length = 4) : ∃ a b c d, l = [a, b, c, d] := by
  match l, h with
  | [a, b, c, d], _ => exact ⟨a, b, c, d, rfl⟩
theorem nine_of {l : List Value} (h : l.length = 9) : ∃ a b c d e f g i j, l = [a, b, c, d, e, f, g, i, j] := by
  match l, h with
  | [a, b, c, d, e, f, g, i, j], _ => exact ⟨a, b, c, d, e, f, g, i, j, rfl⟩
theorem open_hostB {fuel : Nat} {cs : List Value} {x : DataW H × List MemPlace} (h : DataW.trod enc Tryz.prog w base spare held fuel 25 cs = some x) :
    ∃ a b c d n, cs = [.int .u8 a, .int .u8 b, .int .u8 c, .int .u8 d, .string n] ∧ (inU8 a ∧ inU8 b ∧ inU8 c ∧ inU8 d) ∧ n.size ≤ Rows.uptoBulk x.1 := by
  obtain ⟨xs, m, -, hx, hl, hxl, hf⟩ := DataW.trod_struct Tryz.underlying25 h
  obtain ⟨v0, v1, v2, v3, v4, rfl⟩ := five_of (hl.trans cellsHost)
  obtain ⟨y0, y1, rfl⟩ := two_of (show xs.length = 2 from hxl)
  have g0 : DataW.trod enc Tryz.prog w base spare held m 23 ((([v0, v1, v2, v3, v4] : List Value).drop 0).take (Tryz.prog.cellsOf 23)) = some y0 := hf 0 _ rfl
  have g1 : DataW.trod enc Tryz.prog w base spare held m 9 ((([v0, v1, v2, v3, v4] : List Value).drop 4).take (Tryz.prog.cellsOf 9)) = some y1 := hf 1 _ rfl
  simp only [cellsAddr, cellsStr, List.drop_zero, List.drop_succ_cons, List.take_succ_cons, List.take_zero] at g0 g1
  obtain ⟨a, b, c, d, eb, ha, hb, hc, hd⟩ := open_addr g0
  obtain ⟨n, ed, hsu, -⟩ := DataW.trod_string Tryz.underlying9 g1
  cases eb; cases ed
  refine ⟨a, b, c, d, n, rfl, ⟨ha, hb, hc, hd⟩, ?_⟩
  have e1 : Rows.uptoBulk y1.1 = n.size + 1 := by rw [hsu]; simp only [Rows.uptoBulk]; rw [Lib.size_eq]
  rw [hx]
  simp only [Rows.uptoBulk, Rows.uptoBulkAll, List.map_cons, List.map_nil, e1]
  omega
theorem open_destB {fuel : Nat} {cs : List Value} {x : DataW H × List MemPlace} (h : DataW.trod enc Tryz.prog w base spare held fuel 27 cs = some x) :
    ∃ a b c d n po, cs = [.int .u8 a, .int .u8 b, .int .u8 c, .int .u8 d, .string n, .int .i64 po] ∧ (inU8 a ∧ inU8 b ∧ inU8 c ∧ inU8 d) ∧ okI po ∧ n.size ≤ Rows.uptoBulk x.1 := by
  obtain ⟨xs, m, -, hx, hl, hxl, hf⟩ := DataW.trod_struct Tryz.underlying27 h
  obtain ⟨v0, v1, v2, v3, v4, v5, rfl⟩ := six_of (hl.trans cellsDest)
  obtain ⟨y0, y1, rfl⟩ := two_of (show xs.length = 2 from hxl)
  have g0 : DataW.trod enc Tryz.prog w base spare held m 25 ((([v0, v1, v2, v3, v4, v5] : List Value).drop 0).take (Tryz.prog.cellsOf 25)) = some y0 := hf 0 _ rfl
  have g1 : DataW.trod enc Tryz.prog w base spare held m 3 ((([v0, v1, v2, v3, v4, v5] : List Value).drop 5).take (Tryz.prog.cellsOf 3)) = some y1 := hf 1 _ rfl
  simp only [cellsHost, cellsInt, List.drop_zero, List.drop_succ_cons, List.take_succ_cons, List.take_zero] at g0 g1
  obtain ⟨a, b, c, d, n, eb, hb, hw⟩ := open_hostB g0
  obtain ⟨po, ed, -, hpo⟩ := DataW.trod_int Tryz.underlying3 g1
  cases eb; cases ed
  refine ⟨a, b, c, d, n, po, rfl, hb, wf_i64 hpo, ?_⟩
  rw [hx]
  simp only [Rows.uptoBulk, Rows.uptoBulkAll, List.map_cons, List.map_nil]
  omega
theorem open_req {fuel : Nat} {cs : List Value} {x : DataW H × List MemPlace} (h : DataW.trod enc Tryz.prog w base spare held fuel 30 cs = some x) :
    ∃ (m : ByteArray) (a b c d : Int) (n : ByteArray) (po : Int) (p : ByteArray) (A : Option Addr) (cap : Nat) (l : List S78), cs = [.string m, .int .u8 a, .int .u8 b, .int .u8 c, .int .u8 d, .string n, .int .i64 po, .string p, .slice A l.length cap] ∧
      (inU8 a ∧ inU8 b ∧ inU8 c ∧ inU8 d) ∧ okI po ∧ l.length ≤ cap ∧ Kd.C k78 w A l.length l ∧ m.size ≤ Rows.uptoBulk x.1 ∧ n.size ≤ Rows.uptoBulk x.1 ∧ p.size ≤ Rows.uptoBulk x.1 ∧ l.length ≤ Rows.uptoBulk x.1 ∧ ∀ r ∈ l, r.f0.size ≤ Rows.uptoBulk x.1 ∧ r.f1.size ≤ Rows.uptoBulk x.1 := by
  obtain ⟨xs, k, -, hx, hl, hxl, hf⟩ := DataW.trod_struct Tryz.underlying30 h
  obtain ⟨v0, v1, v2, v3, v4, v5, v6, v7, v8, rfl⟩ := nine_of (hl.trans cellsReq)
  obtain ⟨y0, y1, y2, y3, rfl⟩ := four_ofX (show xs.length = 4 from hxl)
  have g0 : DataW.trod enc Tryz.prog w base spare held k 9 ((([v0, v1, v2, v3, v4, v5, v6, v7, v8] : List Value).drop 0).take (Tryz.prog.cellsOf 9)) = some y0 := hf 0 _ rfl
  have g1 : DataW.trod enc Tryz.prog w base spare held k 27 ((([v0, v1, v2, v3, v4, v5, v6, v7, v8] : List Value).drop 1).take (Tryz.prog.cellsOf 27)) = some y1 := hf 1 _ rfl
  have g2 : DataW.trod enc Tryz.prog w base spare held k 9 ((([v0, v1, v2, v3, v4, v5, v6, v7, v8] : List Value).drop 7).take (Tryz.prog.cellsOf 9)) = some y2 := hf 2 _ rfl
  have g3 : DataW.trod enc Tryz.prog w base spare held k 28 ((([v0, v1, v2, v3, v4, v5, v6, v7, v8] : List Value).drop 8).take (Tryz.prog.cellsOf 28)) = some y3 := hf 3 _ rfl
  simp only [cellsStr, cellsDest, cellsFlds, List.drop_zero, List.drop_succ_cons, List.take_succ_cons, List.take_zero] at g0 g1 g2 g3
  obtain ⟨m, e0, h0, -⟩ := DataW.trod_string Tryz.underlying9 g0
  obtain ⟨a, b, c, d, n, po, e1, hb, hpo, hn⟩ := open_destB g1
  obtain ⟨p, e2, h2, -⟩ := DataW.trod_string Tryz.underlying9 g2
  obtain ⟨A, cap, l, e3, hcap, hR, hln, hlm⟩ := open_fields Tryz.underlying28 g3
  cases e0; cases e1; cases e2; cases e3
  have b0 : Rows.uptoBulk y0.1 = m.size + 1 := by rw [h0]; simp only [Rows.uptoBulk]; rw [Lib.size_eq]
  have b2 : Rows.uptoBulk y2.1 = p.size + 1 := by rw [h2]; simp only [Rows.uptoBulk]; rw [Lib.size_eq]
  have hall : Rows.uptoBulk y0.1 ≤ Rows.uptoBulk x.1 ∧ Rows.uptoBulk y1.1 ≤ Rows.uptoBulk x.1 ∧ Rows.uptoBulk y2.1 ≤ Rows.uptoBulk x.1 ∧ Rows.uptoBulk y3.1 ≤ Rows.uptoBulk x.1 := by
    rw [hx]
    simp only [Rows.uptoBulk, Rows.uptoBulkAll, List.map_cons, List.map_nil]
    omega
  refine ⟨m, a, b, c, d, n, po, p, A, cap, l, rfl, hb, hpo, hcap, hR, by omega, by omega, by omega, by omega, fun r hr => ?_⟩
  have := hlm r hr
  omega
end
theorem okRq_of {m : ByteArray} {a b c d : Int} {n p : ByteArray} {l : List S78} {B : Nat} (hb : inU8 a ∧ inU8 b ∧ inU8 c ∧ inU8 d) (hm : m.size ≤ B) (hn : n.size ≤ B) (hp : p.size ≤ B) (hl : l.length ≤ B) (hf : ∀ r ∈ l, r.f0.size ≤ B ∧ r.f1.size ≤ B) (hB : B ≤ 1048576) : okRq m a b c d n p l := by
  refine ⟨⟨hb.1, hb.2.1, hb.2.2.1, hb.2.2.2⟩, by omega, by omega, by omega, ?_⟩
  unfold okLv
  rw [Bool.and_eq_true, List.all_eq_true, decide_eq_true_eq]
  refine ⟨fun r hr => ?_, by omega⟩
  have := hf r hr
  rw [Bool.and_eq_true, decide_eq_true_eq, decide_eq_true_eq]
  omega
end Go.Proofs.YtaakgjbdknobbaaGreatDoor.E


namespace Go.Proofs.YtaakgjbdknobbaaGreatDoor
open Go.RowKit Go.Lib
set_option linter.unusedVariables false
theorem laidMet_tail {P : Program} {x : String × DataW Unit} {r : List (String × DataW Unit)} {W : World} (h : laidMet P (x :: r) W) : laidMet P r W := by
  obtain ⟨ps, ⟨g, t, cs, fuel, p, q, _, _, _, _, hr, rfl⟩, hn, hh⟩ := h
  exact ⟨q, hr, (List.nodup_append.1 hn).2.1, fun b off hb => hh b off (List.mem_append_right _ hb)⟩
theorem gSyn : Tryz.prog.globalNamed "strconv.ErrSyntax" = some 5 := by kernel_rfl
theorem gRng : Tryz.prog.globalNamed "strconv.ErrRange" = some 6 := by kernel_rfl
theorem gPowT : (Tryz.prog.globals[7]?).map (·.type) = some 295 := by kernel_rfl
theorem gSynT : (Tryz.prog.globals[5]?).map (·.type) = some 43 := by kernel_rfl
theorem gRngT : (Tryz.prog.globals[6]?).map (·.type) = some 43 := by kernel_rfl
theorem cellsTab : Tryz.prog.cellsOf 295 = 20 := by kernel_rfl
theorem cellsU64 : Tryz.prog.cellsOf 125 = 1 := by kernel_rfl
theorem cellsES : Tryz.prog.cellsOf 304 = 1 := by kernel_rfl
theorem cellsSt : Tryz.prog.cellsOf 9 = 1 := by kernel_rfl
theorem starES : "*" ++ "errors.errorString" = "*errors.errorString" := by decide
theorem rowES (u : TypeId) (h : Tryz.prog.typeName? 3 u = some "*errors.errorString") : u = 302 :=
  typeName_ptr_named (nm := "errors.errorString") (by rw [starES]; kernel_rfl) (by kernel_rfl) (by decide) u (by rw [starES]; exact h)
def lTab : String × DataW Unit := ("internal/strconv.uint64pow10", Rows.laid_internal_strconv_uint64pow10)
def lAcc : String × DataW Unit := ("unicode/utf8.acceptRanges", Rows.laid_unicode_utf8_acceptRanges)
def lRng : String × DataW Unit := ("strconv.ErrRange", Rows.laid_strconv_ErrRange)
def lSyn : String × DataW Unit := ("strconv.ErrSyntax", Rows.laid_strconv_ErrSyntax)
theorem stdW_of {x0 x1 : String × DataW Unit} {r : List (String × DataW Unit)} {W : World} (hL : laidMet Tryz.prog (x0 :: x1 :: lTab :: lAcc :: lRng :: lSyn :: r) W) (hsh : W.ShapedOpen Tryz.prog) : StdW W := by
  have h2 := laidMet_tail (laidMet_tail hL)
  have ht : TabIs Tryz.prog W "internal/strconv.uint64pow10" .u64 pow10Tab := tabIs_of_head gPow gPowT Tryz.underlying295 Tryz.underlying125 cellsU64 cellsTab h2
  have h4 := laidMet_tail (laidMet_tail h2)
  obtain ⟨a0, s0, hr, -, -, -⟩ := laid_sentinel h4 gRng gRngT Tryz.underlying43 rowES Tryz.underlying302 Tryz.underlying304 rfl rfl Tryz.underlying9 cellsES cellsSt
  obtain ⟨a1, s1, hs, -, -, -⟩ := laid_sentinel (laidMet_tail h4) gSyn gSynT Tryz.underlying43 rowES Tryz.underlying302 Tryz.underlying304 rfl rfl Tryz.underlying9 cellsES cellsSt
  have cr := World.var?_cell gRng hr 0
  have cs := World.var?_cell gSyn hs 0
  refine ⟨Go.Proofs.cell_of_shapedOpen_int (zero := #[.int .i64 0]) (t := 3) hsh (of_decide_eq_true (by kernel_rfl)) (by kernel_rfl) rfl (by kernel_rfl) (by kernel_rfl) Tryz.underlying3, ht, ⟨_, _, by simpa using cs⟩, ⟨_, _, by simpa using cr⟩, ?_⟩
  have c0 := ht.cell gPow 0 (by decide)
  exact World.block_lt_of_cell? _ _ c0
end Go.Proofs.YtaakgjbdknobbaaGreatDoor


namespace Go.Proofs.YtaakgjbdknobbaaGreatDoor
open Go
section
variable {H : Type} {enc : TypeId × Value → H}
theorem witness_zip {C : Checked} {os : Os} {f : FuncId} {fn : Func} {s : OpenSpec} {conds : List PathCond} {apart : Bool} {laid : List (String × DataW Unit)} (w0 : World) (args : Array Value) (hos : w0.os = os)
    (hsh : (w0.forCall (fun _ _ => 0) ⟨#[], args, []⟩).Shaped C.prog)
    (hok : Input.okWideB C.prog (w0.forCall (fun _ _ => 0) ⟨#[], args, []⟩) f ⟨#[], args, []⟩ = true)
    (hrow : s.preRow enc C.prog fn conds apart laid (w0.forCall (fun _ _ => 0) ⟨#[], args, []⟩).memory args) :
    ∃ (w : World) (tape : Tape) (i : Input), w.os = os ∧ (w.forCall tape i).Shaped C.prog ∧ i.vars = [] ∧ Input.okWide C.prog (w.forCall tape i) .any w.heap.size f i ∧
      s.preRow enc C.prog fn conds apart laid (w.forCall tape i).memory i.args ∧ ({} : Assume).holds C.prog (lone (Frame.enter C.prog f i.args .normal) [] (w.forCall tape i)) :=
  ⟨w0, fun _ _ => 0, ⟨#[], args, []⟩, hos, hsh, (Input.okWide_of_okWideB (base := 0) hok).1, (Input.okWide_of_okWideB hok).2, hrow, by
    simp only [Assume.holds]
    exact ⟨by simp, by simp, fun _ => Modest.zero, by simp, by simp⟩⟩
end
end Go.Proofs.YtaakgjbdknobbaaGreatDoor


namespace Go.Proofs.YtaakgjbdknobbaaGreatDoor
open Go
theorem jf_of {P : Program} {f : FuncId} {fn : Func} {s : ChangeSpec} {c : OpenClaim}
    (a1 : (c.wf (OpenSpec.ofChange s) && laidOutB P && mapsRowed P && fn.params.all (P.readableRec ·) && namedTie P c.named s.vars && (c.stops == []) && (P.stops == []) && (c.knobs == []) && (P.stopKnobs == [])) = true)
    (a2 : (c.inPlace == P.inPlace f) = true) (a3 : (c.unfollowed == P.unfollowed f) = true) (a4 : (c.recurses == P.recurses f) = true) (a5 : (c.named == P.varsNamed f) = true)
    (a6 : ((c.maps == (fn.params.toList ++ s.plain.varTypes P).any (P.mapsRec ·)) && (c.ifaces == (fn.params.toList ++ s.plain.varTypes P).any (P.ifacesRec ·)) && (c.mapsOut == P.mapsAmong fn.resultTypes.toList) && (c.loops == (fn.params.toList ++ s.plain.varTypes P).any (P.loopsFrom ·)) && (c.wideKeys == (fn.params.toList ++ s.plain.varTypes P ++ fn.resultTypes.toList).any (P.wideKeysFrom ·))) = true)
    (a7 : (s.vars.all (P.varReadable ·) && fn.resultTypes.all (fun t => P.readableRec t && decide (t < P.types.size)) && (c.ifacesOut == fn.resultTypes.toList.any (P.ifacesRec ·)) && (c.loopsOut == fn.resultTypes.toList.any (P.loopsFrom ·))) = true)
    (a8 : (c.plainKeys == P.plainKeys) = true) (a9 : (c.shortTexts.isNone && P.stopsHeard) = true) (a10 : P.mayEnter = true) (a11 : (c.lifted == P.liftsFinal) = true) (a12 : (P.make == some c.make) = true)
    (a13 : ((c.kinds == (if c.domain.isEmpty then [] else fn.params.toList.map fun t => match P.underlying t with | some (.int k) => some k | _ => none)) && (c.pinned == c.pinnedBy)) = true)
    (a14 : ((c.veiled == (fn.params.toList ++ s.plain.varTypes P ++ fn.resultTypes.toList).any (P.veiledRec ·)) && c.veiledFits P fn.params.toList (fn.params.toList ++ s.plain.varTypes P ++ fn.resultTypes.toList)) = true) : joinedFacts P f fn s c = true := by
  unfold joinedFacts
  simp only [Bool.and_eq_true] at a1 a6 a7 a9 a13 a14 ⊢
  obtain ⟨⟨⟨⟨⟨⟨⟨⟨b1, b2⟩, b3⟩, b4⟩, b5⟩, b6⟩, b7⟩, b8⟩, b9⟩ := a1
  obtain ⟨⟨⟨⟨c1, c2⟩, c3⟩, c4⟩, c5⟩ := a6
  obtain ⟨⟨⟨d1, d2⟩, d3⟩, d4⟩ := a7
  obtain ⟨e1, e2⟩ := a9
  obtain ⟨f1, f2⟩ := a13
  obtain ⟨g1, g2⟩ := a14
  exact ⟨⟨⟨⟨⟨⟨⟨⟨⟨⟨⟨⟨⟨⟨⟨⟨⟨⟨⟨⟨⟨⟨⟨⟨⟨⟨⟨⟨⟨⟨⟨b1, b2⟩, b3⟩, b4⟩, b5⟩, b6⟩, b7⟩, b8⟩, b9⟩, a2⟩, a3⟩, a4⟩, a5⟩, c1⟩, c2⟩, c3⟩, c4⟩, c5⟩, d1⟩, d2⟩, d3⟩, d4⟩, a8⟩, e1⟩, e2⟩, a10⟩, a11⟩, a12⟩, f1⟩, f2⟩, g1⟩, g2⟩
end Go.Proofs.YtaakgjbdknobbaaGreatDoor
