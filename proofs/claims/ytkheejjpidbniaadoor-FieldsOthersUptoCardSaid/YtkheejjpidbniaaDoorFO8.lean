/- FieldsOthers, the second form: fields of other names change nothing of how long an answer may be kept, where what comes in is of bulk at most 1048576. -/
import Derived.Test.YtkheejjpidbniaaDoorFO7
import Derived.Test.YtkheejjpidbniaaDoorFO2
import Derived.Test.YtkheejjpidbniaaDoorRows
import Derived.Deep.Slices
import Derived.Deep.Fields
import Derived.ChangeSame
import Derived.SizedLaws
import Derived.OpenShut
import Derived.Stop.LaidErr
import Derived.Lib.LaidTab
import Derived.Deep.DeepHandedRow
import Derived.Lay
import Derived.Stop.Joined
import Derived.Test.YtkheejjpidbniaaDoorCards
import Derived.Test.YtkheejjpidbniaaDoorTie
import Derived.WalkKit
import Derived.ProofKit
import Derived.ShutString
import Derived.MakeChecks
import Derived.Carry


namespace Go.Proofs.YtkheejjpidbniaaDoor.E
open Go.RowKit Go.Proofs.YtkheejjpidbniaaDoorW.PrintWords Go.Proofs.YtkheejjpidbniaaDoorW.PrintLast Go.Proofs.YtkheejjpidbniaaDoor.XK Go.Proofs.YtkheejjpidbniaaDoor.XA Go.Proofs.YtkheejjpidbniaaDoor.XL
set_option linter.unusedVariables false
set_option linter.unusedSimpArgs false
def goodAge (r : Int × Bool) : Prop := 0 ≤ r.1 ∧ r.1 ≤ 1048576 ∧ (r.2 = true ∨ r.1 = 0)
theorem cut_l2 (s sep : List UInt8) : (Lib.cut s sep).2.1.length ≤ s.length := by
  unfold Lib.cut
  split
  · simp only [List.length_drop]; omega
  · exact Nat.zero_le _
theorem age_loop (ds : List ByteArray) (hz : ∀ p ∈ ds, p.size < 4294967281) (hn : ds.length ≤ 281474976710656) : ∀ (m k i : Nat) (age : Int), i + m = ds.length → 4 * m < k → 0 ≤ age → age ≤ 1048576 → ∃ r, fields_Age.l0 k age ds (ds.length : Int) (i : Int) = some r ∧ goodAge r := by
  intro m
  induction m with
  | zero =>
    intro k i age hi hk h0 h1
    obtain ⟨k, rfl⟩ : ∃ j, k = j + 1 := ⟨k - 1, by omega⟩
    refine ⟨(age, decide (age > 0)), by simp only [fields_Age.l0]; rw [if_neg (by omega)], h0, h1, ?_⟩
    by_cases h : age = 0
    · exact .inr h
    · exact .inl (decide_eq_true (by omega))
  | succ m ih =>
    intro k i age hi hk h0 h1
    obtain ⟨k, rfl⟩ : ∃ j, k = j + 4 := ⟨k - 4, by omega⟩
    have hlt : i < ds.length := by omega
    have hw : wrap64 ((i : Int) + 1) = ((i + 1 : Nat) : Int) := by unfold wrap64; omega
    have hgood : goodAge (0, false) := ⟨Int.le_refl _, by decide, .inr rfl⟩
    have hj3 : ∀ (x8 : ByteArray) (x36 : Bool), x8.size ≤ 281474976710656 → ∃ r, fields_Age.j3 (k + 1) age x8 ds (ds.length : Int) (i : Int) x36 = some r ∧ goodAge r := by
      intro x8 x36 h8
      simp only [fields_Age.j3]
      rw [hw]
      split
      · rw [show fnumber.f x8 = some (atoiV x8.data.toList, numOk x8.data.toList 9999999) by unfold fnumber.f; rw [if_pos h8], Option.bind_some]
        cases hok : numOk x8.data.toList 9999999
        · exact ⟨_, rfl, hgood⟩
        · have hb := numOk_bounds _ _ hok
          rw [if_pos rfl]
          split
          · exact ⟨_, rfl, hgood⟩
          · split
            · exact ⟨_, rfl, hgood⟩
            · have hmn : 0 ≤ mn (atoiV x8.data.toList) 1048576 ∧ mn (atoiV x8.data.toList) 1048576 ≤ 1048576 := by unfold mn; omega
              exact ih k (i + 1) _ (by omega) (by omega) hmn.1 hmn.2
      · exact ih k (i + 1) age (by omega) (by omega) h0 h1
    have hj2 : ∀ (x7 x8 : ByteArray) (x9 x25 : Bool), x8.size ≤ 281474976710656 → ∃ r, fields_Age.j2 (k + 2) age x7 x8 x9 ds (ds.length : Int) (i : Int) x25 = some r ∧ goodAge r := by
      intro x7 x8 x9 x25 h8
      simp only [fields_Age.j2]
      split
      · exact ⟨_, rfl, hgood⟩
      · split
        · exact hj3 _ _ h8
        · exact hj3 _ _ h8
    have hj1 : ∀ (x7 x8 : ByteArray) (x9 x25 : Bool), x8.size ≤ 281474976710656 → ∃ r, fields_Age.j1 (k + 3) age x7 x8 x9 ds (ds.length : Int) (i : Int) x25 = some r ∧ goodAge r := by
      intro x7 x8 x9 x25 h8
      simp only [fields_Age.j1]
      split
      · exact hj2 _ _ _ _ h8
      · split
        · exact hj2 _ _ _ _ h8
        · exact hj2 _ _ _ _ h8
    have hrd : rdOf ByteArray.empty ds (i : Int) = ds[i] := by
      unfold rdOf
      rw [Int.toNat_natCast, List.getD_eq_getElem?_getD, List.getElem?_eq_getElem hlt]; rfl
    have hpz := hz ds[i] (List.getElem_mem _)
    simp only [fields_Age.l0]
    rw [if_pos (by omega), if_pos (by omega), if_pos (by omega), hrd]
    rw [show Cut.f ds[i] ⟨#[61]⟩ = some (⟨(Lib.cut ds[i].data.toList [61]).1.toArray⟩, ⟨(Lib.cut ds[i].data.toList [61]).2.1.toArray⟩, (Lib.cut ds[i].data.toList [61]).2.2) by unfold Cut.f; rw [if_pos hpz], Option.bind_some]
    have h8 : (⟨(Lib.cut ds[i].data.toList [61]).2.1.toArray⟩ : ByteArray).size ≤ 281474976710656 := by
      have := cut_l2 ds[i].data.toList [61]
      rw [← Lib.size_eq] at this
      show (Lib.cut ds[i].data.toList [61]).2.1.length ≤ _
      omega
    split
    · exact hj1 _ _ _ _ h8
    · exact hj1 _ _ _ _ h8
def smallL (l : List S24) : Prop := l.length ≤ 1048577 ∧ ∀ f ∈ l, f.f0.size ≤ 1048576 ∧ f.f1.size ≤ 1048576
theorem small_okL {l : List S24} (h : smallL l) : okL l = true := by
  unfold okL
  rw [Bool.and_eq_true, List.all_eq_true, decide_eq_true_eq]
  refine ⟨fun f hf => ?_, by have := h.1; omega⟩
  have := h.2 f hf
  rw [Bool.and_eq_true, decide_eq_true_eq, decide_eq_true_eq]
  omega
theorem flat_bound (q : S24 → List ByteArray) (n : Nat) : ∀ l : List S24, (∀ f ∈ l, (q f).length ≤ n) → (l.flatMap q).length ≤ l.length * n
  | [], _ => Nat.zero_le _
  | f :: r, h => by
    rw [List.flatMap_cons, List.length_append, List.length_cons, Nat.succ_mul]
    have h1 := h f List.mem_cons_self
    have h2 := flat_bound q n r fun g hg => h g (List.mem_cons_of_mem _ hg)
    omega
theorem dir1_len (f : S24) : (dir1A f).length ≤ f.f1.size + 1 := by
  unfold dir1A
  split
  · have h1 := List.length_filter_le neE ((commas (lowS f.f1)).map trimA)
    have h2 := commas_len (lowS f.f1)
    rw [List.length_map] at h1
    rw [lowS_size] at h2
    omega
  · exact Nat.zero_le _
theorem dir_tot {l : List S24} (h : smallL l) : (l.flatMap dir1A).length ≤ 1048577 * 1048577 :=
  Nat.le_trans (flat_bound dir1A 1048577 l fun f hf => Nat.le_trans (dir1_len f) (by have := (h.2 f hf).2; omega)) (Nat.mul_le_mul_right _ h.1)
theorem dir_size {l : List S24} (h : smallL l) (p : ByteArray) (hp : p ∈ l.flatMap dir1A) : p.size < 4294967281 := by
  obtain ⟨f, hf, hp⟩ := List.mem_flatMap.1 hp
  have := (h.2 f hf).2
  unfold dir1A at hp
  split at hp
  · obtain ⟨q, hq, rfl⟩ := List.mem_map.1 (List.mem_filter.1 hp).1
    have h1 := commas_size _ _ hq
    have h2 := trimA_size q
    rw [lowS_size] at h1
    omega
  · cases hp
theorem age_f (l : List S24) (h : smallL l) (k : Nat) (hk : 4398054899716 < k) : ∃ r, fields_Age.f k l = some r ∧ fields_Age.l0 k 0 (l.flatMap dir1A) ((l.flatMap dir1A).length : Int) 0 = some r ∧ goodAge r := by
  have ht := dir_tot h
  have hd : Directives.f l = some (l.flatMap dir1A) := by unfold Directives.f; rw [if_pos ⟨small_okL h, by omega⟩]
  obtain ⟨r, h1, h2⟩ := age_loop (l.flatMap dir1A) (dir_size h) (by omega) (l.flatMap dir1A).length k 0 0 (by omega) (by omega) (by decide) (by decide)
  refine ⟨r, ?_, h1, h2⟩
  unfold fields_Age.f
  rw [hd, Option.bind_some]
  exact h1
theorem dir1_other (x : S24) (h : eqS (lowS x.f0) cacheS = false) : dir1A x = [] := by unfold dir1A; rw [h]; rfl
theorem among_f (a : Int) (n : Nat) (hn : n ≤ 1048577) : ∃ t : Nat, sallyportbase_Among.f a ((n : Int) + 1) = some (t : Int) ∧ t ≤ n := by
  unfold sallyportbase_Among.f
  have e : IntKind.u64.wrap ((n : Int) + 1) = (n : Int) + 1 := by rw [IntKind.wrap_u64]; omega
  have h0 : 0 ≤ IntKind.u64.wrap a := by rw [IntKind.wrap_u64]; omega
  rw [e, if_neg (by omega)]
  generalize IntKind.u64.wrap a = u at h0
  have h1 : 0 ≤ Int.tmod u ((n : Int) + 1) := Int.tmod_nonneg _ h0
  have h2 : Int.tmod u ((n : Int) + 1) < (n : Int) + 1 := Int.tmod_lt_of_pos _ (by omega)
  refine ⟨(Int.tmod u ((n : Int) + 1)).toNat, ?_, by omega⟩
  congr 1
  unfold wrap64
  omega
theorem works_f : sallyportlaw13_works.f 40 = some true := by kernel_rfl
theorem fieldsOthers_law (l : List S24) (at_ : Int) (x : S24) (hl : smallL l) (hn : l.length ≤ 1048576) (_ : -9223372036854775808 ≤ at_ ∧ at_ ≤ 9223372036854775807) (hx : x.f0.size ≤ 1048576 ∧ x.f1.size ≤ 1048576) : sallyportlaw13_FieldsOthers.f 4398054899800 l at_ x.f0 x.f1 = some true := by
  unfold sallyportlaw13_FieldsOthers.f
  have hw : sallyportlaw13_works.f 4398054899800 = some true := by
    have : ∀ j, sallyportlaw13_works.f (40 + j) = some true := by
      intro j
      induction j with
      | zero => exact works_f
      | succ j ih => exact sallyportlaw13_works.mono (40 + j) _ ih
    exact this 4398054899760
  rw [hw, Option.bind_some, if_pos rfl, show Lower.f x.f0 = some (lowS x.f0) by unfold Lower.f; rw [if_pos (by omega)]; rfl, Option.bind_some]
  by_cases hc : (lowS x.f0).toList = ([99, 97, 99, 104, 101, 45, 99, 111, 110, 116, 114, 111, 108] : List UInt8)
  · rw [if_pos hc]
  rw [if_neg hc]
  have hE : eqS (lowS x.f0) cacheS = false := by
    unfold eqS
    rw [beq_eq_false_iff_ne]
    intro e
    apply hc
    rw [e]
    kernel_rfl
  have hwr : wrap64 ((l.length : Int) + 1) = (l.length : Int) + 1 := by unfold wrap64; omega
  obtain ⟨t, h1, h2⟩ := among_f at_ l.length (by omega)
  rw [hwr, h1, Option.bind_some, if_pos (by omega), if_pos (by omega), Int.toNat_natCast]
  have hF : sallyportbase_Fields.f (l.take t) = some (l.take t) := by
    unfold sallyportbase_Fields.f
    rw [Option.bind_some, if_pos (by simp only [List.length_nil, List.length_take]; omega), List.nil_append]
  rw [hF]
  simp only [Option.bind_some]
  rw [if_pos (by simp only [List.length_cons, List.length_nil, List.length_take]; omega)]
  rw [if_pos (by simp only [List.length_append, List.length_cons, List.length_nil, List.length_take, List.length_drop]; omega)]
  have hm : smallL (l.take t ++ [x] ++ l.drop t) := by
    refine ⟨by simp only [List.length_append, List.length_cons, List.length_nil, List.length_take, List.length_drop]; omega, fun f hf => ?_⟩
    rw [List.append_assoc, List.mem_append, List.mem_append] at hf
    rcases hf with hf | hf | hf
    · exact hl.2 f (List.mem_of_mem_take hf)
    · obtain rfl := List.mem_singleton.1 hf
      exact hx
    · exact hl.2 f (List.mem_of_mem_drop hf)
  have hD : (l.take t ++ [x] ++ l.drop t).flatMap dir1A = l.flatMap dir1A := by
    rw [List.flatMap_append, List.flatMap_append, List.flatMap_cons, dir1_other x hE, List.flatMap_nil, List.append_nil, List.append_nil, ← List.flatMap_append, List.take_append_drop]
  obtain ⟨r, a1, a2, a3⟩ := age_f l hl 4398054899800 (by omega)
  obtain ⟨r', b1, b2, -⟩ := age_f _ hm 4398054899800 (by omega)
  rw [hD, a2] at b2
  obtain rfl := Option.some.inj b2
  have b1' : fields_Age.f 4398054899800 (l.take t ++ ([⟨x.f0, x.f1⟩] : List S24) ++ l.drop t) = some r := b1
  rw [a1, Option.bind_some, b1', Option.bind_some]
  obtain ⟨g1, g2, g3⟩ := a3
  rw [if_pos rfl, if_pos (by simp)]
  cases h : r.2
  · rw [if_neg (by decide)]
    have hz : r.1 = 0 := by rcases g3 with g | g; rw [h] at g; cases g; exact g
    rw [if_pos hz, if_pos (by omega), decide_eq_true g2]
  · rw [if_pos rfl, if_pos (by omega), decide_eq_true g2]
end Go.Proofs.YtkheejjpidbniaaDoor.E


namespace Go.Proofs.YtkheejjpidbniaaDoor.E
open Go.RowKit Go.ChangeShapes Go.WideShapes Go.Deep Go.Proofs.YtkheejjpidbniaaDoorW.PrintWords Go.Proofs.YtkheejjpidbniaaDoorW.PrintLast Go.Proofs.YtkheejjpidbniaaDoor.XK
set_option linter.unusedVariables false
set_option linter.unusedSimpArgs false
section
variable {H : Type} {enc : TypeId × Value → H} {w : World} {base : Nat} {spare : Nat → Bool} {held : Bool}
theorem cellsFld : Tryd.prog.cellsOf 24 = 2 := by kernel_rfl
theorem cellsStr : Tryd.prog.cellsOf 9 = 1 := by kernel_rfl
def okI (n : Int) : Prop := -9223372036854775808 ≤ n ∧ n ≤ 9223372036854775807
theorem wf_i64 {n : Int} (h : (Lit.int .i64 n).wf = true) : okI n := by
  simp only [Lit.wf, Bool.and_eq_true, decide_eq_true_eq] at h
  exact ⟨h.1, h.2⟩
theorem bulk_pos (d : DataW H) : 1 ≤ Rows.uptoBulk d := by
  cases d with
  | lit l => cases l <;> simp [Rows.uptoBulk]
  | _ => simp [Rows.uptoBulk]
theorem bulk_mem : ∀ {ds : List (DataW H)} {d : DataW H}, d ∈ ds → Rows.uptoBulk d ≤ Rows.uptoBulkAll ds
  | d0 :: ds, d, h => by
    simp only [Rows.uptoBulkAll]
    rcases List.mem_cons.1 h with rfl | h
    · omega
    · have := bulk_mem h; omega
theorem bulk_len : ∀ ds : List (DataW H), ds.length ≤ Rows.uptoBulkAll ds
  | [] => Nat.zero_le _
  | d :: ds => by
    simp only [Rows.uptoBulkAll, List.length_cons]
    have := bulk_pos d; have := bulk_len ds; omega
theorem two_of {α : Type} {l : List α} (h : l.length = 2) : ∃ a b, l = [a, b] := by
  match l, h with
  | [a, b], _ => exact ⟨a, b, rfl⟩
theorem open_field {fuel : Nat} {cs : List Value} {x : DataW H × List MemPlace} (h : DataW.trod enc Tryd.prog w base spare held fuel 24 cs = some x) :
    ∃ r : S24, cs = [.string r.f0, .string r.f1] ∧ r.f0.size ≤ Rows.uptoBulk x.1 ∧ r.f1.size ≤ Rows.uptoBulk x.1 := by
  obtain ⟨xs, n, -, hx, hl, hxl, hf⟩ := DataW.trod_struct Tryd.underlying24 h
  obtain ⟨v0, v1, rfl⟩ := two_of (hl.trans cellsFld)
  obtain ⟨y0, y1, rfl⟩ := two_of (show xs.length = 2 from hxl)
  have g0 : DataW.trod enc Tryd.prog w base spare held n 9 ((([v0, v1] : List Value).drop 0).take (Tryd.prog.cellsOf 9)) = some y0 := hf 0 _ rfl
  have g1 : DataW.trod enc Tryd.prog w base spare held n 9 ((([v0, v1] : List Value).drop 1).take (Tryd.prog.cellsOf 9)) = some y1 := hf 1 _ rfl
  simp only [cellsStr, List.drop_zero, List.drop_succ_cons, List.take_succ_cons, List.take_zero] at g0 g1
  obtain ⟨a, ea, ha, -⟩ := DataW.trod_string Tryd.underlying9 g0
  obtain ⟨b, eb, hb, -⟩ := DataW.trod_string Tryd.underlying9 g1
  cases ea; cases eb
  refine ⟨⟨a, b⟩, rfl, ?_⟩
  have e0 : Rows.uptoBulk y0.1 = a.size + 1 := by rw [ha]; simp only [Rows.uptoBulk]; rw [Lib.size_eq]
  have e1 : Rows.uptoBulk y1.1 = b.size + 1 := by rw [hb]; simp only [Rows.uptoBulk]; rw [Lib.size_eq]
  rw [hx]
  simp only [Rows.uptoBulk, Rows.uptoBulkAll, List.map_cons, List.map_nil, e0, e1]
  omega
theorem open_fields {t : TypeId} (ht : Tryd.prog.underlying t = some (.slice 24)) {fuel : Nat} {cs : List Value} {x : DataW H × List MemPlace} (h : DataW.trod enc Tryd.prog w base spare held fuel t cs = some x) :
    ∃ (A : Option Addr) (c : Nat) (l : List S24), cs = [.slice A l.length c] ∧ l.length ≤ c ∧ Kd.C k24 w A l.length l ∧ l.length ≤ Rows.uptoBulk x.1 ∧ ∀ r ∈ l, r.f0.size ≤ Rows.uptoBulk x.1 ∧ r.f1.size ≤ Rows.uptoBulk x.1 := by
  rcases open_slice ht h with ⟨rfl, rfl⟩ | ⟨a, len, cap, m, n, D, Pl, rfl, hb, hl, hm, hmm, hx, hi⟩
  · exact ⟨none, 0, [], rfl, Nat.le_refl _, Kd.C_nil _ _, Nat.zero_le _, fun r hr => by cases hr⟩
  · have hlm : len ≤ m := by rw [hmm]; split <;> omega
    have hi' : ∀ i : Fin len, ∃ r : S24, (r.f0.size ≤ Rows.uptoBulk (D i.1) ∧ r.f1.size ≤ Rows.uptoBulk (D i.1)) ∧ ∀ j, j < 2 → w.cell? (a.add (i.1 * 2 + j)) = ([.string r.f0, .string r.f1] : List Value)[j]? := by
      intro i
      obtain ⟨cs', hc, ht2⟩ := hi i.1 (by omega)
      obtain ⟨r, rfl, hw⟩ := open_field ht2
      obtain ⟨_, _, hat⟩ := World.cells?_some hc
      rw [cellsFld] at hat
      exact ⟨r, hw, fun j hj => by rw [← Go.Deep.add_add]; exact hat j hj⟩
    have hlen : (List.ofFn fun i : Fin len => (hi' i).choose).length = len := List.length_ofFn
    have hbk : ∀ i : Fin len, Rows.uptoBulk (D i.1) ≤ Rows.uptoBulk x.1 := fun i => by
      rw [hx]
      simp only [Rows.uptoBulk]
      have := bulk_mem (ds := (List.range len).map D) (d := D i.1) (List.mem_map.2 ⟨i.1, List.mem_range.2 i.2, rfl⟩)
      omega
    refine ⟨some a, cap, List.ofFn fun i : Fin len => (hi' i).choose, by rw [hlen], by rw [hlen]; exact hl, ?_, ?_, ?_⟩
    · refine ⟨rfl, by rw [hlen]; unfold maxLen at hm; omega, fun _ => ⟨a, rfl, fun j p hj => ?_⟩⟩
      have hjl : j < len := by rw [← hlen]; exact (List.getElem?_eq_some_iff.1 hj).1
      have hp : (hi' ⟨j, hjl⟩).choose = p := by
        rw [List.getElem?_ofFn, dif_pos hjl] at hj
        exact Option.some.inj hj
      subst hp
      refine ⟨_, rfl, k24_mk w _, fun i u hu => ?_⟩
      have hi9 : i < 2 := (List.getElem?_eq_some_iff.1 hu).1
      exact ((hi' ⟨j, hjl⟩).choose_spec.2 i hi9).trans hu
    · rw [hlen, hx]
      simp only [Rows.uptoBulk]
      have := bulk_len ((List.range len).map D)
      rw [List.length_map, List.length_range] at this
      omega
    · intro r hr
      obtain ⟨i, rfl⟩ := List.mem_ofFn.1 hr
      have h1 := (hi' i).choose_spec.1
      have h2 := hbk i
      exact ⟨Nat.le_trans h1.1 h2, Nat.le_trans h1.2 h2⟩
end
end Go.Proofs.YtkheejjpidbniaaDoor.E


namespace Go.Proofs.YtkheejjpidbniaaDoor
open Go.RowKit Go.Lib
set_option linter.unusedVariables false
theorem laidMet_tail {P : Program} {x : String × DataW Unit} {r : List (String × DataW Unit)} {W : World} (h : laidMet P (x :: r) W) : laidMet P r W := by
  obtain ⟨ps, ⟨g, t, cs, fuel, p, q, _, _, _, _, hr, rfl⟩, hn, hh⟩ := h
  exact ⟨q, hr, (List.nodup_append.1 hn).2.1, fun b off hb => hh b off (List.mem_append_right _ hb)⟩
theorem gSyn : Tryd.prog.globalNamed "strconv.ErrSyntax" = some 1 := by kernel_rfl
theorem gRng : Tryd.prog.globalNamed "strconv.ErrRange" = some 2 := by kernel_rfl
theorem gPowT : (Tryd.prog.globals[3]?).map (·.type) = some 109 := by kernel_rfl
theorem gSynT : (Tryd.prog.globals[1]?).map (·.type) = some 52 := by kernel_rfl
theorem gRngT : (Tryd.prog.globals[2]?).map (·.type) = some 52 := by kernel_rfl
theorem cellsTab : Tryd.prog.cellsOf 109 = 20 := by kernel_rfl
theorem cellsU64 : Tryd.prog.cellsOf 38 = 1 := by kernel_rfl
theorem cellsES : Tryd.prog.cellsOf 107 = 1 := by kernel_rfl
theorem cellsSt : Tryd.prog.cellsOf 9 = 1 := by kernel_rfl
theorem starES : "*" ++ "errors.errorString" = "*errors.errorString" := by decide
theorem rowES (u : TypeId) (h : Tryd.prog.typeName? 3 u = some "*errors.errorString") : u = 105 :=
  typeName_ptr_named (nm := "errors.errorString") (by rw [starES]; kernel_rfl) (by kernel_rfl) (by decide) u (by rw [starES]; exact h)
def lTab : String × DataW Unit := ("internal/strconv.uint64pow10", Rows.laid_internal_strconv_uint64pow10)
def lAcc : String × DataW Unit := ("unicode/utf8.acceptRanges", Rows.laid_unicode_utf8_acceptRanges)
def lRng : String × DataW Unit := ("strconv.ErrRange", Rows.laid_strconv_ErrRange)
def lSyn : String × DataW Unit := ("strconv.ErrSyntax", Rows.laid_strconv_ErrSyntax)
theorem stdW_of {x0 x1 : String × DataW Unit} {r : List (String × DataW Unit)} {W : World} (hL : laidMet Tryd.prog (x0 :: x1 :: lTab :: lAcc :: lRng :: lSyn :: r) W) (hsh : W.ShapedOpen Tryd.prog) : StdW W := by
  have h2 := laidMet_tail (laidMet_tail hL)
  have ht : TabIs Tryd.prog W "internal/strconv.uint64pow10" .u64 pow10Tab := tabIs_of_head gPow gPowT Tryd.underlying109 Tryd.underlying38 cellsU64 cellsTab h2
  have h4 := laidMet_tail (laidMet_tail h2)
  obtain ⟨a0, s0, hr, -, -, -⟩ := laid_sentinel h4 gRng gRngT Tryd.underlying52 rowES Tryd.underlying105 Tryd.underlying107 rfl rfl Tryd.underlying9 cellsES cellsSt
  obtain ⟨a1, s1, hs, -, -, -⟩ := laid_sentinel (laidMet_tail h4) gSyn gSynT Tryd.underlying52 rowES Tryd.underlying105 Tryd.underlying107 rfl rfl Tryd.underlying9 cellsES cellsSt
  have cr := World.var?_cell gRng hr 0
  have cs := World.var?_cell gSyn hs 0
  refine ⟨Go.Proofs.cell_of_shapedOpen_int (zero := #[.int .i64 0]) (t := 3) hsh (of_decide_eq_true (by kernel_rfl)) (by kernel_rfl) rfl (by kernel_rfl) (by kernel_rfl) Tryd.underlying3, ht, ⟨_, _, by simpa using cs⟩, ⟨_, _, by simpa using cr⟩, ?_⟩
  have c0 := ht.cell gPow 0 (by decide)
  exact World.block_lt_of_cell? _ _ c0
end Go.Proofs.YtkheejjpidbniaaDoor


namespace Go.Proofs.YtkheejjpidbniaaDoor
open Go
section
variable {H : Type} {enc : TypeId × Value → H}
theorem witness_zip {C : Checked} {os : Os} {f : FuncId} {fn : Func} {s : OpenSpec} {conds : List PathCond} {apart : Bool} {laid : List (String × DataW Unit)} (w0 : World) (args : Array Value) (hos : w0.os = os)
    (hsh : (w0.forCall (fun _ _ => 0) ⟨#[], args, []⟩).Shaped C.prog)
    (hok : Input.okWideB C.prog (w0.forCall (fun _ _ => 0) ⟨#[], args, []⟩) f ⟨#[], args, []⟩ = true)
    (hrow : s.preRow enc C.prog fn conds apart laid (w0.forCall (fun _ _ => 0) ⟨#[], args, []⟩).memory args) :
    ∃ (w : World) (tape : Tape) (i : Input), w.os = os ∧ (w.forCall tape i).Shaped C.prog ∧ i.vars = [] ∧ Input.okWide C.prog (w.forCall tape i) .any w.heap.size f i ∧
      s.preRow enc C.prog fn conds apart laid (w.forCall tape i).memory i.args ∧ ({} : Assume).holds C.prog (lone (Frame.enter C.prog f i.args .normal) [] (w.forCall tape i)) :=
  ⟨w0, fun _ _ => 0, ⟨#[], args, []⟩, hos, hsh, (Input.okWide_of_okWideB (base := 0) hok).1, (Input.okWide_of_okWideB hok).2, hrow, by
    simp only [Assume.holds]
    exact ⟨by simp, by simp, fun _ => Modest.zero, by simp, by simp⟩⟩
end
end Go.Proofs.YtkheejjpidbniaaDoor


namespace Go.Proofs.YtkheejjpidbniaaDoor.fieldsOthers
open Go.ChangeShapes Go.WideShapes Go.ChangeAt Go.RowKit Go.Proofs.YtkheejjpidbniaaDoor.E Go.Proofs.YtkheejjpidbniaaDoor.XK
open Go.ChangeMaps (open_string shut_string)
set_option linter.unusedVariables false
theorem own : ownKnob Tryd.prog.godebug = none := by kernel_rfl
theorem laidOut : laidOutB Tryd.prog = true := by kernel_rfl
theorem reads (os : Os) {H : Type} (enc : TypeId × Value → H) : DataW.whole enc Tryd.prog ((World.laidAll Tryd.prog os Rows.fieldsOthersRow.laid).forCall (fun _ _ => 0) ⟨#[], #[.slice none 0 0, .int .i64 0, .agg #[.string ByteArray.empty, .string ByteArray.empty]], []⟩).memory Tryd.f3.params.toList Rows.fieldsOthersSpec.vars false (#[Value.slice none 0 0, Value.int .i64 0, Value.agg #[.string ByteArray.empty, .string ByteArray.empty]] : Array Value).toList 8 = some ([.nil, .lit (.int .i64 0), .agg [.lit (.string []), .lit (.string [])]], [], []) := by kernel_rfl
theorem shaped (os : Os) : ((World.laidAll Tryd.prog os Rows.fieldsOthersRow.laid).forCall (fun _ _ => 0) ⟨#[], #[.slice none 0 0, .int .i64 0, .agg #[.string ByteArray.empty, .string ByteArray.empty]], []⟩).Shaped Tryd.prog := World.shaped_of_ZipB (by kernel_rfl) (by kernel_rfl)
theorem laidMet0 (os : Os) : laidMetH Tryd.prog Rows.fieldsOthersRow.laid ((World.laidAll Tryd.prog os Rows.fieldsOthersRow.laid).forCall (fun _ _ => 0) ⟨#[], #[.slice none 0 0, .int .i64 0, .agg #[.string ByteArray.empty, .string ByteArray.empty]], []⟩).memory := by
  rw [MakeChecks.laidMetH_plain _ _ _ (by kernel_rfl)]
  exact laidMet_laidAll _ (by kernel_rfl) (by kernel_rfl)
set_option maxRecDepth 100000 in
theorem contract (H : Type) (enc : TypeId × Value → H) (W : World) (base : Nat) (args : Array Value) (ds gs : List (DataW H)) (before : List MemPlace)
    (hval0 : ∀ (j : Nat) t v, Tryd.f3.params[j]? = some t → args[j]? = some v → Value.okWide Tryd.prog W .any base t v)
    (hW : DataW.Whole enc Tryd.prog Tryd.f3.params.toList Rows.fieldsOthersSpec.vars false W args.toList ds gs before)
    (hsz0 : (DataW.weightsEach Tryd.prog (Tryd.f3.params.toList ++ Rows.fieldsOthersSpec.plain.varTypes Tryd.prog) (ds ++ gs)).all (· ≤ reachBytes) = true)
    (hco : Rows.uptoSmall H (ds ++ gs) = true)
    (hL : laidMetH Tryd.prog Rows.fieldsOthersRow.laid W) (hsh : W.ShapedOpen Tryd.prog) :
    Calls Tryd.prog 3 args W fun e W' => ∃ v, e = .returned v ∧ Rows.fieldsOthersSpec.post enc Tryd.prog Tryd.f3 false true false false W args v W' := by
  have hval : ∀ (j : Nat) t v, Tryd.f3.params[j]? = some t → args[j]? = some v → Value.okWide Tryd.prog W .any base t v := hval0
  have hsz := hsz0
  have hW' := hW
  obtain ⟨p, q, hA0, hV, rfl, hfz, hnd⟩ := hW
  have hA : DataW.TrodAll enc Tryd.prog W 0 (fun _ => true) true Tryd.f3.params.toList args.toList ds p := hA0
  rw [Tryd.params3] at hA hval hsz
  obtain ⟨v0, vs0, d0, ds0, p0, q0, hargs, rfl, rfl, h0, r0⟩ := trodAll_cons hA
  obtain ⟨v1, vs1, d1, ds1, p1, q1, rfl, rfl, rfl, h1, r1⟩ := trodAll_cons r0
  obtain ⟨v2, vs2, d2, ds2, p2, q2, rfl, rfl, rfl, h2, r2⟩ := trodAll_cons r1
  obtain ⟨rfl, rfl, rfl⟩ := trodAll_nil r2
  obtain rfl : args = #[v0, v1, v2] := by cases args; simp_all
  obtain ⟨rfl, rfl⟩ := trodVars_none hV
  have k0 := h0
  have lt0 : ∀ x ∈ p0, x.block < W.heap.size := by obtain ⟨m, hm⟩ := k0; exact DataW.trod_lt m _ _ _ hm
  obtain ⟨fuel0, hf0⟩ := h0
  obtain ⟨a0, len0, cap0, rfl⟩ := okWide_slice Tryd.underlying22 (hval 0 22 v0 rfl rfl)
  obtain ⟨A0, c0, l0, e0, hc0, hr0, hn0, hm0⟩ := open_fields Tryd.underlying22 hf0
  simp only [Value.cells, List.cons.injEq, Value.slice.injEq, and_true] at e0
  obtain ⟨rfl, rfl, rfl⟩ := e0
  try dsimp only at hn0 hm0
  obtain ⟨n1, rfl, rfl, rfl, w1⟩ := open_int Tryd.underlying3 (hval 1 3 v1 rfl rfl) h1
  have k2 := h2
  have lt2 : ∀ x ∈ p2, x.block < W.heap.size := by obtain ⟨m, hm⟩ := k2; exact DataW.trod_lt m _ _ _ hm
  obtain ⟨fuel2, hf2⟩ := h2
  obtain ⟨⟨cs2⟩, rfl, cz2⟩ := okWide_struct Tryd.underlying24 (hval 2 24 v2 rfl rfl)
  obtain ⟨ru2, e2, hw2⟩ := open_field hf2
  obtain rfl : cs2 = _ := e2
  try dsimp only at hw2
  have hbk := of_decide_eq_true hco
  simp only [List.append_nil, Rows.uptoBulkAll] at hbk
  have hbk0 : Rows.uptoBulk d0 ≤ 1048576 := by omega
  have hbk1 : Rows.uptoBulk d2 ≤ 1048576 := by omega
  rw [MakeChecks.laidMetH_plain _ _ _ (by kernel_rfl)] at hL
  have hS : StdW W := stdW_of hL hsh
  clear hA0 hval0 hval hsz0
  refine (Go.Proofs.YtkheejjpidbniaaDoor.XL.sallyportlaw13_FieldsOthers.calls 4398054899800 a0 cap0 l0 n1 ru2.f0 ru2.f1 true W hr0 hc0 hS (fieldsOthers_law l0 n1 ru2 ⟨by omega, fun r hr => by have := hm0 r hr; omega⟩ (by omega) (wf_i64 w1) (by omega))).mono fun e W' ⟨he, bel⟩ => ?_
  subst he
  exact ⟨_, rfl, _, _, _, [], _, [], hW', trodAll_mk1 (shut_bool Tryd.underlying4 _), (trodAll_cons_mk (Below.trod laidOut (by kernel_rfl) (of_decide_eq_true (by kernel_rfl)) k0 bel lt0) (trodAll_cons_mk (shut_int Tryd.underlying3 w1) (trodAll_cons_mk (Below.trod laidOut (by kernel_rfl) (of_decide_eq_true (by kernel_rfl)) k2 bel lt2) trodAll_mk0))), rfl, bel.frame _, fun h => by cases h⟩
set_option maxRecDepth 100000 in
theorem liftedUpto (os : Os) (started : os.Started) (H : Type) (enc : TypeId × Value → H) (F : Stop.Interp) :
    ReturnsInHanded {} Tryd.checked os 3 .any ((Rows.OpenSpec.upto Rows.fieldsOthersSpec).preRow enc Tryd.prog Tryd.f3 Rows.fieldsOthersUptoRow.domain false Rows.fieldsOthersUptoRow.laid) (((Rows.OpenSpec.upto Rows.fieldsOthersSpec).at F).post enc Tryd.prog Tryd.f3 false true false false) := by
  refine returnsInHanded_of_row (C := Tryd.checked) (s := Rows.OpenSpec.upto Rows.fieldsOthersSpec) own started (by kernel_rfl) Tryd.func3
    (witness_zip (enc := enc) (C := Tryd.checked) (World.laidAll Tryd.prog os Rows.fieldsOthersUptoRow.laid) #[.slice none 0 0, .int .i64 0, .agg #[.string ByteArray.empty, .string ByteArray.empty]] (World.laidAll_os _ _ _) (shaped os) (by kernel_rfl)
      (OpenSpec.preRow_of_cond 8 (reads os enc) (by kernel_rfl) (fun k hk => by cases hk; kernel_rfl) (by kernel_rfl) (laidMet0 os))) ?_
  intro W base args ds gs before hval hW _ hco hsz hL hsh _
  exact contract H enc W base args ds gs before hval hW hsz (hco _ rfl) hL hsh
theorem saidUpto : Rows.FieldsOthersUptoSaid :=
  OpenClaim.holds_of_cond 3 Tryd.f3 rfl rfl rfl rfl rfl rfl rfl ⟨rfl, rfl, rfl, rfl, rfl⟩ rfl rfl rfl rfl rfl (by kernel_rfl) Tryd.func3 (by kernel_rfl)
    (of_decide_eq_true (by kernel_rfl)) (by unfold Func.isWrapper; first | (rw [if_pos (by decide +kernel)]; kernel_rfl) | (rw [if_neg (by decide +kernel)]; exact ⟨rfl, rfl⟩))
    (fun os started H enc _ F => by rw [OpenClaim.pre_eq_preRow]; exact liftedUpto os started H enc F)
theorem plain (f : FuncId) (fn : Func) (hf : Tryd.pinned.checked.prog.funcNamed "sallyport/sallyportlaw13.FieldsOthers" = some f) (hfn : Tryd.pinned.checked.prog.funcs[f]? = some fn) :
    true = Tryd.pinned.checked.prog.looks [] ∧ ∀ (j : Nat) t, fn.params[j]? = some t → Tryd.pinned.checked.prog.wantsStandIn t = false := by
  obtain rfl : f = 3 := Option.some.inj ((show Tryd.prog.funcNamed "sallyport/sallyportlaw13.FieldsOthers" = some 3 by kernel_rfl).symm.trans hf) |>.symm
  obtain rfl : fn = Tryd.f3 := (Option.some.inj (Tryd.func3.symm.trans hfn)).symm
  refine ⟨by kernel_rfl, fun j t ht => ?_⟩
  rw [Tryd.params3] at ht
  have hm := Array.mem_of_getElem? ht
  simp only [List.mem_toArray, List.mem_cons, List.not_mem_nil, or_false] at hm
  rcases hm with rfl | rfl | rfl
  · exact (show Tryd.prog.wantsStandIn 22 = false by kernel_rfl)
  · exact (show Tryd.prog.wantsStandIn 3 = false by kernel_rfl)
  · exact (show Tryd.prog.wantsStandIn 24 = false by kernel_rfl)
theorem cardUpto : Rows.FieldsOthersUptoCardSaid :=
  Claim7.holds_tied_plain_at .later [] _ _ _ _ saidUpto (fun _ h => by cases h) (by kernel_rfl) (fun _ h => by cases h) fieldsOthersUpto_row_tie rfl ⟨rfl, rfl⟩ (by kernel_rfl) rfl plain (by kernel_rfl)
end Go.Proofs.YtkheejjpidbniaaDoor.fieldsOthers
namespace Go.Proofs.YtkheejjpidbniaaDoor
theorem fieldsOthers_cardUpto : Rows.FieldsOthersUptoCardSaid := fieldsOthers.cardUpto
end Go.Proofs.YtkheejjpidbniaaDoor
