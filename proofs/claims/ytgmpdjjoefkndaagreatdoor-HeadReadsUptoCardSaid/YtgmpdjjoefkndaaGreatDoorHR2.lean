/- What the cards of this seat rest on: the walks and plain laws, part 2. -/
import Derived.Lib.ItoaNum
import Derived.Lib.AtoiAll
import Derived.Lib.SplitLaws
import Derived.Lib.CutLaws
import Derived.Lib.Case
import Derived.Lib.SlTrimSet
import Derived.Shelf.Strings.Builder1
import Derived.Shelf.Strings.Builder2
import Derived.Shelf.Strings.OnBuilder
import Derived.Shelf.Strings.Trim
import Derived.Shelf.Small.Utf8
import Derived.Shelf.Small.Strs
import Derived.Shelf.Small.Wraps
import Derived.Shelf.Strings.BuilderF
import Derived.Shelf.Strings.BuilderK
import Derived.Shelf.Strings.BuilderRune
import Derived.Shelf.Strconv.Atoi
import Derived.Shelf.Strconv.Itoa0
import Derived.Shelf.Strconv.Itoa1
import Derived.Shelf.LaysM
import Derived.Shelf.Strconv.Itoa2
import Derived.Shelf.Strconv.Itoa3
import Derived.Shelf.Bytes.Len
import Derived.Shelf.Bytes.TryGrow
import Derived.Shelf.Bytes.GrowSliceCatch
import Derived.Shelf.Bytes.GrowSlice
import Derived.Shelf.Bytes.GrowRow0
import Derived.Shelf.Bytes.GrowRow
import Derived.Shelf.Bytes.GrowNil
import Derived.Shelf.Bytes.Grow
import Derived.Shelf.Bytes.WriteString
import Derived.Shelf.Bytes.Bytes
import Derived.Shelf.Strconv.AtoiErrFast
import Derived.Shelf.Strconv.ParseIntEmpty
import Derived.Shelf.Strconv.AtoiFail
import Derived.Shelf.Strconv.Clone
import Derived.Shelf.Strconv.SyntaxError
import Derived.Shelf.LaysC
import Derived.Shelf.Strconv.ToError
import Derived.Shelf.Strconv.AtoiErr
import Derived.Shelf.Strconv.ErrVar
import Derived.Shelf.Strconv.Lower
import Derived.Shelf.Strconv.ParseUint10
import Derived.Shelf.Strconv.ParseUint10Empty
import Derived.Shelf.Strconv.ParseUint10Any
import Derived.Shelf.Strconv.ParseInt10
import Derived.Shelf.Strconv.AtoiLong
import Derived.Shelf.Strconv.AtoiInnerAll
import Derived.Shelf.Strconv.RangeError
import Derived.Shelf.Strconv.ToErrorRange
import Derived.Shelf.Strconv.AtoiAll
import Derived.Shelf.Strconv.ErrVarAll
import Derived.Shelf.Strconv.ParseUintEmpty
import Derived.Shelf.Strconv.ParseUint10b64
import Derived.Shelf.Strconv.ParseUint10b32
import Derived.Shelf.Strconv.ParseUint10b16
import Derived.Shelf.Strconv.ParseUint10b8
import Derived.Shelf.Strconv.ParseUint10At
import Derived.Shelf.Strconv.ParseInt10At64
import Derived.Shelf.Strconv.ParseInt10At32
import Derived.Shelf.Strconv.ParseInt10At16
import Derived.Shelf.Strconv.ParseInt10At8
import Derived.Shelf.Strconv.ParseInt10All
import Derived.Shelf.Strings.Search1
import Derived.Shelf.Bytes.GrowRow0Kept
import Derived.Shelf.Strings.Search2
import Derived.Shelf.Bytes.GrowRowKept
import Derived.Shelf.Strings.Search3
import Derived.Shelf.Bytes.GrowNilKept
import Derived.Shelf.Strings.Cut
import Derived.Shelf.Bytes.GrowKept
import Derived.Shelf.Strings.Count
import Derived.Shelf.Strings.Shaped
import Derived.Shelf.Bytes.WriteStringKept
import Derived.Shelf.Bytes.ResetKept
import Derived.Shelf.Strings.LastIndex
import Derived.Shelf.Bytes.BufferK
import Derived.Shelf.Strings.Prefix
import Derived.Shelf.Strings.Split
import Derived.Shelf.Strings.Replace
import Derived.Shelf.Strings.SplitShaped
import Derived.Shelf.Unicode.Latin
import Derived.Shelf.Strings.Runes
import Derived.Shelf.Strings.IndexAny
import Derived.Shelf.Strings.AsciiSet
import Derived.Shelf.Strings.IndexAnyAll
import Derived.Shelf.Unicode.DecodeSlow
import Derived.Shelf.Unicode.DecodeAny
import Derived.Shelf.Unicode.CaseLookup
import Derived.Shelf.Unicode.CaseConvert
import Derived.Shelf.Unicode.CaseTo
import Derived.Shelf.Unicode.CaseLaid
import Derived.Shelf.Strings.MapAny
import Derived.Shelf.Strings.CaseAny
import Derived.Shelf.Bytes.SlIndexSmall
import Derived.Shelf.Bytes.SlIndexAt
import Derived.Shelf.Bytes.SlSearch0
import Derived.Shelf.Bytes.SlSearch1
import Derived.Shelf.Bytes.SlSearch2
import Derived.Shelf.Bytes.SlIndexWhole
import Derived.Shelf.Bytes.SlSmallAll
import Derived.Shelf.Bytes.SlEqualAll
import Derived.Ground.PaProg
import Derived.Shelf.Path.Small
import Derived.Shelf.Bytes.Small
import Derived.Shelf.Bytes.IndexByte
import Derived.Test.YtgmpdjjoefkndaaGreatDoorProg
import Derived.Lib.LaidTab
import Derived.WalkSmall
import Derived.Sort.Grow
import Derived.Below
import Derived.Lib.Hide
import Derived.WalkKit
import Derived.Outline
import Derived.Test.YtgmpdjjoefkndaaGreatDoorHR1
import Derived.Deep.Draws
import Derived.Deep.AppendLies
import Derived.Maps.AppendAt
import Derived.OwnWalk
import Derived.Laws.BytesArg
import Derived.Laws.MakeOwn
import Derived.Laws.OwnMore
import Derived.Deep.OwnRows
import Derived.Tactics
import Derived.Lib.ConvBytes
import Derived.Laws.Slices
import Derived.KernelRfl
import Derived.RowKit3
import Derived.Deep.LoopGhost
import Derived.Deep.QuietTactic
import Derived.BigQuiet
import Derived.WideLaws
import Derived.Deep.DeepCutAuto
import Derived.Deep.CutBlock
import Derived.Deep.RegionHeld3
import Derived.Laws.Rows
import Derived.Lib.AppendStr
import Derived.ArgAppend
import Derived.Laws.IdiomCopy
import Derived.OrdersHeld
import Derived.Laws.BitsLemmas
import Derived.RowKit
import Derived.Lib.Replace
import Derived.Shelf.Utf8.AppendRune
import Derived.Shelf.Utf8.RuneCount
import Derived.Shelf.Strings.Builder2Cap
import Derived.Shelf.Bytes.Reset
import Derived.Shelf.Bytes.LenAt
import Derived.Shelf.Bytes.TryGrowAt
import Derived.Shelf.Unicode.Decode
import Derived.Shelf.Strings.RuneCount
import Derived.Shelf.Strings.Explode
import Derived.Shelf.Unicode.DecodeLast
import Derived.Shelf.Strings.BuilderCap
import Derived.Shelf.Strings.SlTrimAscii
import Derived.WalkLawsBesides
import Derived.Laws.IdiomStrings
import Derived.Deep.RegionWith
import Derived.Lib.SlBytesRow

namespace Go.Proofs.YtgmpdjjoefkndaaGreatDoor.Num
open Go.Lib

def val (l:List UInt8):Nat:=l.foldl (fun a c=>a*10+(c.toNat - 48)) 0
theorem val_snoc (l:List UInt8) (c:UInt8):val (l++[c])=val l*10+(c.toNat - 48):=by simp [val]
def canon (l:List UInt8):Bool:=l==decDigits (val l)
def dig (c:UInt8):Bool:=decide (48≤c.toNat) && decide (c.toNat≤57)
theorem dig_iff (c:UInt8):dig c=true↔48≤c.toNat∧c.toNat≤57:=by simp [dig]
theorem ofNat_toNat (k:Nat) (h:k<10):(UInt8.ofNat (48+k)).toNat=48+k:=by
 rw [UInt8.toNat_ofNat'];omega
theorem val_dec (n:Nat):val (decDigits n)=n:=by
 induction n using Nat.strongRecOn with
 |_ n ih=>
  by_cases h:n<10
  ·rw [decDigits,dif_pos h]
   simp only [val,List.foldl_cons,List.foldl_nil]
   rw [ofNat_toNat n h];omega
  ·rw [decDigits,dif_neg h,val_snoc,ih (n / 10) (by omega),ofNat_toNat _ (by omega)];omega
theorem canon_dec (n:Nat):canon (decDigits n)=true:=by simp [canon,val_dec]
theorem canon_iff (l:List UInt8):canon l=true↔l=decDigits (val l):=by simp [canon]
theorem dec_digits (n:Nat): ∀ c ∈ decDigits n,dig c=true:=by
 induction n using Nat.strongRecOn with
 |_ n ih=>
  intro c hc
  by_cases h:n<10
  ·rw [decDigits,dif_pos h] at hc
   simp only [List.mem_cons,List.not_mem_nil,or_false] at hc
   subst hc;rw [dig_iff,ofNat_toNat n h];omega
  ·rw [decDigits,dif_neg h,List.mem_append] at hc
   rcases hc with hc|hc
   ·exact ih (n / 10) (by omega) c hc
   ·simp only [List.mem_cons,List.not_mem_nil,or_false] at hc
    subst hc;rw [dig_iff,ofNat_toNat _ (by omega)];omega
theorem dec_ne (n:Nat):decDigits n≠[]:=by
 intro h
 have:=decDigits_length n
 rw [h] at this
 have:=nDigits_pos n
 simp at*;omega
theorem dec_head (n:Nat) (h:0<n): ∃ c r,decDigits n=c::r∧49≤c.toNat:=by
 induction n using Nat.strongRecOn with
 |_ n ih=>
  by_cases h10:n<10
  ·exact ⟨_,[],by rw [decDigits,dif_pos h10],by rw [ofNat_toNat n h10];omega⟩
  ·obtain ⟨c,r,e,hc⟩:=ih (n / 10) (by omega) (by omega)
   exact ⟨c,r++[UInt8.ofNat (48+n % 10)],by rw [decDigits,dif_neg h10,e];rfl,hc⟩
def whole (l:List UInt8) (d:Nat):Option Nat:=
 if l=[]∨d<l.length∨(1<l.length∧l.head?.map (·.toNat)=some 48) then none
 else if l.all dig then some (val l) else none
theorem val_pos (l:List UInt8) (h: ∃ c r,l=c::r∧49≤c.toNat):0<val l:=by
 obtain ⟨c,r,rfl,hc⟩:=h
 have: ∀ (r:List UInt8) (a:Nat),0<a→0<r.foldl (fun a c=>a*10+(c.toNat - 48)) a:=by
  intro r
  induction r with
  |nil=>intro a h;exact h
  |cons x t ih=>intro a h;exact ih _ (by show 0<a*10+(x.toNat - 48);omega)
 exact this r _ (by show 0<0*10+(c.toNat - 48);omega)
theorem dec_of_digits: ∀ (n:Nat) (l:List UInt8),l.length=n→l≠[]→l.all dig=true→(l.length=1∨ ∃ c r,l=c::r∧49≤c.toNat)→l=decDigits (val l):=by
 intro n
 induction n with
 |zero=>intro l hl hne;exact absurd (List.eq_nil_of_length_eq_zero hl) hne
 |succ n ih=>
  intro l hl hne hall hh
  obtain ⟨l',c,rfl⟩: ∃ l' c,l=l'++[c]:=⟨l.dropLast,l.getLast hne,(List.dropLast_concat_getLast hne).symm⟩
  rw [List.all_append,Bool.and_eq_true] at hall
  have hc:dig c=true:=by simpa using hall.2
  rw [dig_iff] at hc
  have hcc:UInt8.ofNat (48+(c.toNat - 48))=c:=by
   apply UInt8.toNat_inj.1;rw [UInt8.toNat_ofNat'];omega
  rw [val_snoc]
  by_cases hl':l'=[]
  ·subst hl'
   rw [decDigits,dif_pos (by simp [val];omega)]
   simp [val,hcc]
  ·have hh': ∃ c r,l'=c::r∧49≤c.toNat:=by
    rcases hh with hh|⟨x,r,e,hx⟩
    ·have:0<l'.length:=List.length_pos_iff.2 hl'
     rw [List.length_append] at hh;simp only [List.length_cons,List.length_nil] at hh;omega
    ·cases l' with
     |nil=>exact absurd rfl hl'
     |cons y t=>injection e with e1 e2;exact ⟨y,t,rfl,by rw [e1];exact hx⟩
   have hp:=val_pos l' hh'
   have:=ih l' (by simp at hl;omega) hl' hall.1 (.inr hh')
   rw [decDigits,dif_neg (by omega),show (val l'*10+(c.toNat - 48)) / 10=val l' by omega,show (val l'*10+(c.toNat - 48)) % 10=c.toNat - 48 by omega,hcc,← this]
theorem nDigits_le (k n:Nat) (h:n<10^k) (hk:1≤k):nDigits n≤k:=by
 induction k generalizing n with
 |zero=>omega
 |succ k ih=>
  by_cases h10:n<10
  ·rw [nDigits_small h10];omega
  ·rw [nDigits_big h10]
   have:1≤k:=by
    rcases Nat.eq_zero_or_pos k with rfl|h
    ·simp at h;omega
    ·exact h
   have:=ih (n / 10) (by rw [Nat.pow_succ] at h;omega) this
   omega
theorem whole_canon (l:List UInt8) (d:Nat):whole l d=if canon l=true∧l.length≤d then some (val l) else none:=by
 unfold whole
 by_cases hc:canon l=true
 ·have e:=(canon_iff l).1 hc
  have hne:l≠[]:=by rw [e];exact dec_ne _
  have hall:l.all dig=true:=by rw [e,List.all_eq_true];exact dec_digits _
  have hh: ¬ (1<l.length∧l.head?.map (·.toNat)=some 48):=by
   rintro ⟨h1,h2⟩
   by_cases h0:val l<10
   ·rw [e,decDigits,dif_pos h0] at h1;simp at h1
   ·obtain ⟨c,r,e2,hc2⟩:=dec_head (val l) (by omega)
    rw [e,e2] at h2;simp at h2;omega
  by_cases hd:l.length≤d
  ·have hn: ¬ (l=[]∨d<l.length∨(1<l.length∧l.head?.map (·.toNat)=some 48)):=by
    rintro (h|h|h)
    ·exact hne h
    ·omega
    ·exact hh h
   rw [if_neg hn,if_pos hall,if_pos ⟨hc,hd⟩]
  ·rw [if_pos (.inr (.inl (by omega))),if_neg (by rintro ⟨_,h⟩;exact hd h)]
 ·rw [if_neg (show ¬ (canon l=true∧l.length≤d) from fun h=>hc h.1)]
  split
  ·rfl
  ·rename_i h
   rw [if_neg]
   intro hall
   apply hc
   rw [canon_iff]
   have hne:l≠[]:=fun e=>h (.inl e)
   refine dec_of_digits _ l rfl hne hall ?_
   cases l with
   |nil=>exact absurd rfl hne
   |cons c r=>
    by_cases h1:(c::r).length=1
    ·exact .inl h1
    ·refine .inr ⟨c,r,rfl,?_⟩
     have hdc:dig c=true:=by simp at hall;exact hall.1
     rw [dig_iff] at hdc
     have:c.toNat≠48:=fun e=>h (.inr (.inr ⟨Nat.lt_of_le_of_ne (Nat.succ_le_of_lt (List.length_pos_iff.2 hne)) (Ne.symm h1),by simp [e]⟩))
     omega
theorem canon_len (l:List UInt8) (k:Nat) (hk:1≤k) (hc:canon l=true) (hv:val l<10^k):l.length≤k:=by
 rw [(canon_iff l).1 hc,decDigits_length];exact nDigits_le k _ hv hk
theorem parse_digits: ∀ (l:List UInt8) (acc:Nat),l.all dig=true→l.foldl (fun a c=>a*10+(c.toNat - 48)) acc<9223372036854775808→parseUint10 acc l= .ok (l.foldl (fun a c=>a*10+(c.toNat - 48)) acc):=by
 intro l
 induction l with
 |nil=>intro acc _ _;rfl
 |cons c r ih=>
  intro acc hall hlt
  simp only [List.all_cons,Bool.and_eq_true] at hall
  have hd:=(dig_iff c).1 hall.1
  have mono: ∀ (r:List UInt8) (a:Nat),a≤r.foldl (fun a c=>a*10+(c.toNat - 48)) a:=by
   intro r
   induction r with
   |nil=>intro a;exact Nat.le_refl _
   |cons x t ih=>intro a;exact Nat.le_trans (show a≤a*10+(x.toNat - 48) by omega) (ih _)
  simp only [List.foldl_cons] at hlt ⊢
  have:=mono r (acc*10+(c.toNat - 48))
  rw [parseUint10,if_pos hd,if_neg (by omega),if_neg (by omega)]
  exact ih _ hall.2 hlt
theorem atoi_canon (l:List UInt8) (hc:canon l=true) (hv:val l<9223372036854775808):atoiAll l= .ok (val l:Int):=by
 have e:=(canon_iff l).1 hc
 have hall:l.all dig=true:=by rw [e,List.all_eq_true];exact dec_digits _
 cases l with
 |nil=>exact absurd e.symm (dec_ne _)
 |cons c r=>
  have hd:dig c=true:=by simp at hall;exact hall.1
  rw [dig_iff] at hd
  have hp:=parse_digits (c::r) 0 hall (by exact hv)
  unfold atoiAll
  simp only
  rw [if_neg (by omega)]
  unfold parseMag
  rw [if_neg (by simp),hp]
  simp only
  have hv':(c::r).foldl (fun a c=>a*10+(c.toNat - 48)) 0<9223372036854775808:=hv
  rw [if_neg (by omega),if_neg (by omega),if_neg (by omega)]
  rfl
theorem atoi_itoa (l:List UInt8) (v:Int) (h:atoiAll l= .ok v) (h0:0≤v) (hi:itoa v=l):canon l=true∧v=(val l:Int):=by
 unfold itoa at hi
 rw [if_neg (by omega)] at hi
 subst hi
 exact ⟨canon_dec _,by rw [val_dec];omega⟩
theorem itoa_val (l:List UInt8) (hc:canon l=true):itoa (val l:Int)=l:=by
 unfold itoa;rw [if_neg (by omega)];exact ((canon_iff l).1 hc).symm
end Go.Proofs.YtgmpdjjoefkndaaGreatDoor.Num

namespace Go.Proofs.YtgmpdjjoefkndaaGreatDoor.Pt
open Go.Lib

def cutOn (c:UInt8):List UInt8→List (List UInt8)
 |[]=>[[]]
 |x::l=>if x=c then []::cutOn c l else match cutOn c l with
  |[]=>[[x]]
  |p::r=>(x::p)::r
theorem cutOn_ne (c:UInt8) (l:List UInt8):cutOn c l≠[]:=by
 cases l with
 |nil=>simp [cutOn]
 |cons x l=>unfold cutOn;split;simp;split<;>simp
theorem cutOn_cons (c:UInt8) (l:List UInt8): ∃ p r,cutOn c l=p::r:=by
 cases h:cutOn c l with
 |nil=>exact absurd h (cutOn_ne c l)
 |cons p r=>exact ⟨p,r,rfl⟩
theorem splitK_cutOn (c:UInt8): ∀ s:List UInt8,splitK [c] 0 (count s [c]) s=cutOn c s
 |[]=>by
  rw [count_miss (by simp [index])];rfl
 |b::l=>by
  have ih:=splitK_cutOn c l
  by_cases h:b=c
  ·subst h
   have hix:index (b::l) [b]=0:=by rw [index];simp [List.isPrefixOf]
   rw [count_cons_eq,Nat.add_comm,splitK,hix]
   simp only [cutOn,if_true]
   rw [← ih];rfl
  ·rw [count_cons_ne b c l h]
   simp only [cutOn,if_neg h]
   have hp:([c]:List UInt8).isPrefixOf (b::l)=false:=by simp [List.isPrefixOf,Ne.symm h]
   have hix:index (b::l) [c]=if index l [c]== -1 then -1 else index l [c]+1:=by rw [index,hp];simp
   cases hn:count l [c] with
   |zero=>
    rw [hn] at ih
    rw [← ih];rfl
   |succ m=>
    rw [hn] at ih
    have hm: ¬ index l [c]= -1:=fun e=>by rw [count_miss e] at hn;cases hn
    have hge:=index_ge l [c]
    obtain ⟨j,hj⟩: ∃ j:Nat,index l [c]=j:=⟨(index l [c]).toNat,by omega⟩
    have hb:(index l [c]== -1)=false:=by rw [beq_eq_false_iff_ne];exact hm
    rw [← ih]
    unfold splitK
    rw [hix,hb]
    have hb2:((index l [c]+1:Int)== -1)=false:=by rw [beq_eq_false_iff_ne];omega
    simp only [Bool.false_eq_true,if_false,hb2]
    rw [hj]
    have e1:((j:Int)+1).toNat=j+1:=by omega
    have e2:((j:Int)).toNat=j:=by omega
    rw [e1,e2]
    simp
def tot (l:List (List UInt8)):Nat:=(l.map (fun p=>p.length+1)).sum
theorem tot_cutOn (c:UInt8): ∀ s:List UInt8,tot (cutOn c s)=s.length+1
 |[]=>rfl
 |x::l=>by
  have ih:=tot_cutOn c l
  obtain ⟨p,r,e⟩:=cutOn_cons c l
  unfold cutOn
  split
  ·show _+tot (cutOn c l)=_;rw [ih];simp;omega
  ·rw [e] at ih ⊢
   simp only [tot,List.map_cons,List.sum_cons,List.length_cons] at ih ⊢
   omega
theorem cutOn_all (c:UInt8) (P:UInt8→Bool) (hc:P c=true): ∀ s:List UInt8,(∀ p ∈ cutOn c s,p.all P=true)→s.all P=true
 |[],_=>rfl
 |x::l,h=>by
  have ih:=cutOn_all c P hc l
  obtain ⟨p,r,e⟩:=cutOn_cons c l
  unfold cutOn at h
  split at h
  ·rename_i hx
   rw [List.all_cons,hx,hc,Bool.true_and]
   exact ih (fun q hq=>h q (List.mem_cons_of_mem _ hq))
  ·rw [e] at h ih
   have h1:=h (x::p) List.mem_cons_self
   rw [List.all_cons,Bool.and_eq_true] at h1 ⊢
   refine ⟨h1.1,ih (fun q hq=>?_)⟩
   rcases List.mem_cons.1 hq with rfl|hq
   ·exact h1.2
   ·exact h q (List.mem_cons_of_mem _ hq)
end Go.Proofs.YtgmpdjjoefkndaaGreatDoor.Pt

namespace Go.Proofs.YtgmpdjjoefkndaaGreatDoor.Fd
open Go.Lib

def trimB (l:List UInt8):List UInt8:=trimS l [32,9]
theorem trimB_len (l:List UInt8):(trimB l).length≤l.length:=by
 unfold trimB trimS trimLeftS trimRightS
 refine Nat.le_trans (List.dropWhile_sublist _).length_le ?_
 rw [List.length_reverse]
 refine Nat.le_trans (List.dropWhile_sublist _).length_le ?_
 rw [List.length_reverse]
 exact Nat.le_refl _
def low (l:List UInt8):List UInt8:=toLowerA l
def partsL (l:List UInt8):List (List UInt8):=(Pt.cutOn 44 l).map trimB
abbrev F:Type:=List UInt8×List UInt8
def sConn:List UInt8:=[99,111,110,110,101,99,116,105,111,110]
def sign (c:UInt8):Bool:=(97≤c && c≤122)||((65≤c && c≤90)||((48≤c && c≤57)||(32<c && [33,35,36,37,38,39,42,43,45,46,94,95,96,124,126].contains c)))
def token (l:List UInt8):Bool:=l.all sign && (!l.isEmpty && decide (l.length≤64))
def fixed:List (List UInt8):=[sConn,[107,101,101,112,45,97,108,105,118,101],[112,114,111,120,121,45,97,117,116,104,101,110,116,105,99,97,116,101],[112,114,111,120,121,45,97,117,116,104,111,114,105,122,97,116,105,111,110],[112,114,111,120,121,45,99,111,110,110,101,99,116,105,111,110],[116,101],[116,114,97,105,108,101,114],[116,114,97,110,115,102,101,114,45,101,110,99,111,100,105,110,103],[117,112,103,114,97,100,101]]
def conn1 (f:F):List (List UInt8):=if low f.1==sConn then partsL f.2 else []
def told (l:List F):List (List UInt8):=((l.flatMap conn1).filter token).map low
def hop (l:List F) (n:List UInt8):Bool:=fixed.contains n||(told l).contains n
end Go.Proofs.YtgmpdjjoefkndaaGreatDoor.Fd

namespace Go.Proofs
open Go.Shelf

def Tryz.lays159_ren:Go.Shelf.Ren:=⟨fun|159=>186|165=>198|166=>113|167=>210|169=>115|230=>211|204=>212|240=>159|241=>221|197=>172|118=>226|168=>227|270=>228|262=>229|276=>199|277=>237|260=>205|242=>239|313=>240|278=>243|274=>244|275=>245|n=>n,fun|9=>9|4=>4|3=>3|5=>5|72=>172|0=>0|76=>26|75=>25|107=>266|70=>170|20=>20|37=>22|127=>221|21=>21|105=>232|164=>235|162=>297|203=>295|119=>279|46=>139|139=>282|138=>281|51=>181|160=>299|208=>307|206=>305|80=>174|n=>n,fun|13=>8|3=>5|4=>6|n=>n⟩
theorem Tryz.lays159:Go.Proofs.Lays.n159 Tryz.prog Tryz.lays159_ren:= {
 mixed:=by kernel_rfl
 f118:=Tryz.func226.trans (congrArg some (by kernel_rfl))
 f159:=Tryz.func186.trans (congrArg some (by kernel_rfl))
 f165:=Tryz.func198.trans (congrArg some (by kernel_rfl))
 f166:=Tryz.func113.trans (congrArg some (by kernel_rfl))
 f167:=Tryz.func210.trans (congrArg some (by kernel_rfl))
 f168:=Tryz.func227.trans (congrArg some (by kernel_rfl))
 f169:=Tryz.func115.trans (congrArg some (by kernel_rfl))
 f197:=Tryz.func172.trans (congrArg some (by kernel_rfl))
 f204:=Tryz.func212.trans (congrArg some (by kernel_rfl))
 f230:=Tryz.func211.trans (congrArg some (by kernel_rfl))
 f240:=Tryz.func159.trans (congrArg some (by kernel_rfl))
 f241:=Tryz.func221.trans (congrArg some (by kernel_rfl))
 f242:=Tryz.func239.trans (congrArg some (by kernel_rfl))
 f260:=Tryz.func205.trans (congrArg some (by kernel_rfl))
 f262:=Tryz.func229.trans (congrArg some (by kernel_rfl))
 f270:=Tryz.func228.trans (congrArg some (by kernel_rfl))
 f274:=Tryz.func244.trans (congrArg some (by kernel_rfl))
 f275:=Tryz.func245.trans (congrArg some (by kernel_rfl))
 f276:=Tryz.func199.trans (congrArg some (by kernel_rfl))
 f277:=Tryz.func237.trans (congrArg some (by kernel_rfl))
 f278:=Tryz.func243.trans (congrArg some (by kernel_rfl))
 f313:=Tryz.func240.trans (congrArg some (by kernel_rfl))
 t0:=Tryz.underlying0
 a0:=Tryz.isAgg0
 z0:=Tryz.sizeOf0
 v0:=Tryz.zeroValue0
 t3:=Tryz.underlying3
 a3:=Tryz.isAgg3
 z3:=Tryz.sizeOf3
 v3:=Tryz.zeroValue3
 t4:=Tryz.underlying4
 a4:=Tryz.isAgg4
 z4:=Tryz.sizeOf4
 v4:=Tryz.zeroValue4
 t5:=Tryz.underlying5
 a5:=Tryz.isAgg5
 z5:=Tryz.sizeOf5
 v5:=Tryz.zeroValue5
 t9:=Tryz.underlying9
 a9:=Tryz.isAgg9
 z9:=Tryz.sizeOf9
 v9:=Tryz.zeroValue9
 t20:=Tryz.underlying20
 a20:=Tryz.isAgg20
 z20:=Tryz.sizeOf20
 v20:=Tryz.zeroValue20
 t21:=Tryz.underlying21
 a21:=Tryz.isAgg21
 z21:=Tryz.sizeOf21
 v21:=Tryz.zeroValue21
 t37:=Tryz.underlying22
 a37:=Tryz.isAgg22
 z37:=Tryz.sizeOf22
 v37:=Tryz.zeroValue22
 t46:=Tryz.underlying139
 a46:=Tryz.isAgg139
 z46:=Tryz.sizeOf139
 v46:=Tryz.zeroValue139
 t51:=Tryz.underlying181
 a51:=Tryz.isAgg181
 z51:=Tryz.sizeOf181
 v51:=Tryz.zeroValue181
 t70:=Tryz.underlying170
 a70:=Tryz.isAgg170
 z70:=Tryz.sizeOf170
 v70:=Tryz.zeroValue170
 t72:=Tryz.underlying172
 a72:=Tryz.isAgg172
 z72:=Tryz.sizeOf172
 v72:=Tryz.zeroValue172
 t75:=Tryz.underlying25
 a75:=Tryz.isAgg25
 z75:=Tryz.sizeOf25
 v75:=Tryz.zeroValue25
 t76:=Tryz.underlying26
 a76:=Tryz.isAgg26
 z76:=Tryz.sizeOf26
 v76:=Tryz.zeroValue26
 t105:=Tryz.underlying232
 a105:=Tryz.isAgg232
 z105:=Tryz.sizeOf232
 v105:=Tryz.zeroValue232
 t107:=Tryz.underlying266
 a107:=Tryz.isAgg266
 z107:=Tryz.sizeOf266
 v107:=Tryz.zeroValue266
 t119:=Tryz.underlying279
 a119:=Tryz.isAgg279
 z119:=Tryz.sizeOf279
 t127:=Tryz.underlying221
 a127:=Tryz.isAgg221
 z127:=Tryz.sizeOf221
 v127:=Tryz.zeroValue221
 t138:=Tryz.underlying281
 a138:=Tryz.isAgg281
 z138:=Tryz.sizeOf281
 v138:=Tryz.zeroValue281
 t139:=Tryz.underlying282
 a139:=Tryz.isAgg282
 z139:=Tryz.sizeOf282
 v139:=Tryz.zeroValue282
 t160:=Tryz.underlying299
 a160:=Tryz.isAgg299
 z160:=Tryz.sizeOf299
 v160:=Tryz.zeroValue299
 t162:=Tryz.underlying297
 a162:=Tryz.isAgg297
 z162:=Tryz.sizeOf297
 v162:=Tryz.zeroValue297
 t164:=Tryz.underlying235
 a164:=Tryz.isAgg235
 z164:=Tryz.sizeOf235
 v164:=Tryz.zeroValue235
 t203:=Tryz.underlying295
 a203:=Tryz.isAgg295
 z203:=Tryz.sizeOf295
 v203:=Tryz.zeroValue295
 t206:=Tryz.underlying305
 a206:=Tryz.isAgg305
 z206:=Tryz.sizeOf305
 v206:=Tryz.zeroValue305
 t208:=Tryz.underlying307
 a208:=Tryz.isAgg307
 z208:=Tryz.sizeOf307
 v208:=Tryz.zeroValue307
 g3:=by kernel_rfl
 g4:=by kernel_rfl
 g13:=by kernel_rfl }
theorem Tryz.Builder_Extra_159:Builder.Extra Tryz.prog Tryz.lays159_ren:= {
 sizeBuilder:=by kernel_rfl
 liesBuilder:=by kernel_rfl
 t5:=Tryz.underlying5
 a5:=Tryz.isAgg5
 z5:=Tryz.sizeOf5
 v5:=Tryz.zeroValue5
 infoByte:=by kernel_rfl
 cellsByte:=by kernel_rfl
 sizeByte:=by kernel_rfl
 neB5:=by decide }
open Go.RowKit in
theorem Tryz.strings_ToLower_ascii (s:ByteArray) (w:World) (hs:s.size≤140737488355328) (hascii: ∀ (j:Nat) (b:UInt8),s.data.toList[j]? =some b→b.toNat<128):
 Calls Tryz.prog 186 #[.string s] w fun e w'=>e= .returned (.string ⟨(Lib.toLowerA s.data.toList).toArray⟩)∧Below w.heap.size w w':=Any.strings_ToLower_ascii Tryz.lays159 Tryz.Builder_Extra_159 s w hs hascii
def Tryz.lays160_ren:Go.Shelf.Ren:=⟨fun|160=>100|232=>142|231=>141|227=>143|234=>145|233=>144|236=>147|235=>146|228=>176|271=>188|151=>187|197=>172|120=>213|152=>174|260=>205|137=>132|119=>206|224=>89|225=>203|217=>177|266=>207|n=>n,fun|9=>9|4=>4|3=>3|5=>5|117=>195|116=>194|0=>0|124=>198|21=>21|105=>232|46=>139|119=>279|139=>282|138=>281|n=>n,fun|3=>5|4=>6|n=>n⟩
theorem Tryz.lays160:Go.Proofs.Lays.n160 Tryz.prog Tryz.lays160_ren:= {
 mixed:=by kernel_rfl
 f119:=Tryz.func206.trans (congrArg some (by kernel_rfl))
 f120:=Tryz.func213.trans (congrArg some (by kernel_rfl))
 f137:=Tryz.func132.trans (congrArg some (by kernel_rfl))
 f151:=Tryz.func187.trans (congrArg some (by kernel_rfl))
 f152:=Tryz.func174.trans (congrArg some (by kernel_rfl))
 f160:=Tryz.func100.trans (congrArg some (by kernel_rfl))
 f197:=Tryz.func172.trans (congrArg some (by kernel_rfl))
 f217:=Tryz.func177.trans (congrArg some (by kernel_rfl))
 f224:=Tryz.func89.trans (congrArg some (by kernel_rfl))
 f225:=Tryz.func203.trans (congrArg some (by kernel_rfl))
 f227:=Tryz.func143.trans (congrArg some (by kernel_rfl))
 f228:=Tryz.func176.trans (congrArg some (by kernel_rfl))
 f231:=Tryz.func141.trans (congrArg some (by kernel_rfl))
 f232:=Tryz.func142.trans (congrArg some (by kernel_rfl))
 f233:=Tryz.func144.trans (congrArg some (by kernel_rfl))
 f234:=Tryz.func145.trans (congrArg some (by kernel_rfl))
 f235:=Tryz.func146.trans (congrArg some (by kernel_rfl))
 f236:=Tryz.func147.trans (congrArg some (by kernel_rfl))
 f260:=Tryz.func205.trans (congrArg some (by kernel_rfl))
 f266:=Tryz.func207.trans (congrArg some (by kernel_rfl))
 f271:=Tryz.func188.trans (congrArg some (by kernel_rfl))
 t0:=Tryz.underlying0
 a0:=Tryz.isAgg0
 z0:=Tryz.sizeOf0
 v0:=Tryz.zeroValue0
 t3:=Tryz.underlying3
 a3:=Tryz.isAgg3
 z3:=Tryz.sizeOf3
 v3:=Tryz.zeroValue3
 t4:=Tryz.underlying4
 a4:=Tryz.isAgg4
 z4:=Tryz.sizeOf4
 v4:=Tryz.zeroValue4
 t5:=Tryz.underlying5
 a5:=Tryz.isAgg5
 z5:=Tryz.sizeOf5
 v5:=Tryz.zeroValue5
 t9:=Tryz.underlying9
 a9:=Tryz.isAgg9
 z9:=Tryz.sizeOf9
 v9:=Tryz.zeroValue9
 t21:=Tryz.underlying21
 a21:=Tryz.isAgg21
 z21:=Tryz.sizeOf21
 v21:=Tryz.zeroValue21
 t46:=Tryz.underlying139
 a46:=Tryz.isAgg139
 z46:=Tryz.sizeOf139
 v46:=Tryz.zeroValue139
 t105:=Tryz.underlying232
 a105:=Tryz.isAgg232
 z105:=Tryz.sizeOf232
 v105:=Tryz.zeroValue232
 t116:=Tryz.underlying194
 a116:=Tryz.isAgg194
 z116:=Tryz.sizeOf194
 t117:=Tryz.underlying195
 a117:=Tryz.isAgg195
 z117:=Tryz.sizeOf195
 v117:=Tryz.zeroValue195
 t119:=Tryz.underlying279
 a119:=Tryz.isAgg279
 z119:=Tryz.sizeOf279
 t124:=Tryz.underlying198
 a124:=Tryz.isAgg198
 z124:=Tryz.sizeOf198
 v124:=Tryz.zeroValue198
 t138:=Tryz.underlying281
 a138:=Tryz.isAgg281
 z138:=Tryz.sizeOf281
 v138:=Tryz.zeroValue281
 t139:=Tryz.underlying282
 a139:=Tryz.isAgg282
 z139:=Tryz.sizeOf282
 v139:=Tryz.zeroValue282
 g3:=by kernel_rfl
 g4:=by kernel_rfl }
def Tryz.lays119_ren:Go.Shelf.Ren:=⟨fun|119=>206|n=>n,fun|21=>21|4=>4|n=>n,fun|n=>n⟩
theorem Tryz.lays119:Go.Proofs.Lays.n119 Tryz.prog Tryz.lays119_ren:= {
 mixed:=by kernel_rfl
 f119:=Tryz.func206.trans (congrArg some (by kernel_rfl))
 t4:=Tryz.underlying4
 a4:=Tryz.isAgg4
 z4:=Tryz.sizeOf4
 v4:=Tryz.zeroValue4
 t21:=Tryz.underlying21
 a21:=Tryz.isAgg21
 z21:=Tryz.sizeOf21
 v21:=Tryz.zeroValue21 }
theorem Tryz.utf8_ValidRune (r:Int) (w:World):
 Calls Tryz.prog 206 #[.int .i32 r] w fun e w'=>e= .returned (.bool (Lib.validRune r))∧w'=w:=Any.utf8_ValidRune Tryz.lays119 r w
def Tryz.lays137_ren:Go.Shelf.Ren:=⟨fun|137=>132|217=>177|266=>207|n=>n,fun|9=>9|5=>5|3=>3|n=>n,fun|n=>n⟩
theorem Tryz.lays137:Go.Proofs.Lays.n137 Tryz.prog Tryz.lays137_ren:= {
 mixed:=by kernel_rfl
 f137:=Tryz.func132.trans (congrArg some (by kernel_rfl))
 f217:=Tryz.func177.trans (congrArg some (by kernel_rfl))
 f266:=Tryz.func207.trans (congrArg some (by kernel_rfl))
 t3:=Tryz.underlying3
 a3:=Tryz.isAgg3
 z3:=Tryz.sizeOf3
 v3:=Tryz.zeroValue3
 t5:=Tryz.underlying5
 a5:=Tryz.isAgg5
 z5:=Tryz.sizeOf5
 v5:=Tryz.zeroValue5
 t9:=Tryz.underlying9
 a9:=Tryz.isAgg9
 z9:=Tryz.sizeOf9
 v9:=Tryz.zeroValue9 }
open Go.RowKit in
theorem Tryz.strings_IndexByte (s:ByteArray) (c:Int) (w:World):
 Calls Tryz.prog 132 #[.string s,.int .u8 c] w fun e w'=>e= .returned (.int .i64 (Lib.indexByte s.data.toList c.toNat.toUInt8))∧w'=w:=Any.strings_IndexByte Tryz.lays137 s c w
def Tryz.lays103_ren:Go.Shelf.Ren:=⟨fun|103=>97|210=>137|206=>184|n=>n,fun|9=>9|4=>4|24=>153|3=>3|n=>n,fun|n=>n⟩
theorem Tryz.lays103:Go.Proofs.Lays.n103 Tryz.prog Tryz.lays103_ren:= {
 mixed:=by kernel_rfl
 f103:=Tryz.func97.trans (congrArg some (by kernel_rfl))
 f206:=Tryz.func184.trans (congrArg some (by kernel_rfl))
 f210:=Tryz.func137.trans (congrArg some (by kernel_rfl))
 t3:=Tryz.underlying3
 a3:=Tryz.isAgg3
 z3:=Tryz.sizeOf3
 v3:=Tryz.zeroValue3
 t4:=Tryz.underlying4
 a4:=Tryz.isAgg4
 z4:=Tryz.sizeOf4
 v4:=Tryz.zeroValue4
 t9:=Tryz.underlying9
 a9:=Tryz.isAgg9
 z9:=Tryz.sizeOf9
 v9:=Tryz.zeroValue9
 t24:=Tryz.underlying153
 a24:=Tryz.isAgg153
 z24:=Tryz.sizeOf153
 v24:=Tryz.zeroValue153 }
open Go.RowKit in
theorem Tryz.strings_CutPrefix (s p:ByteArray) (w:World):
 Calls Tryz.prog 97 #[.string s,.string p] w fun e w'=>e= .returned (.tuple #[.string ⟨(Lib.trimPrefix s.data.toList p.data.toList).toArray⟩,.bool (Lib.hasPrefix s.data.toList p.data.toList)])∧w'=w:=Any.strings_CutPrefix Tryz.lays103 s p w
def Tryz.laysM171_ren:Go.Shelf.Ren:=⟨fun|171=>108|243=>156|246=>197|283=>217|284=>218|285=>219|286=>220|129=>233|317=>232|318=>234|319=>235|320=>236|337=>241|338=>242|n=>n,fun|3=>3|9=>9|2=>2|4=>4|171=>272|0=>0|53=>134|37=>22|5=>5|173=>275|212=>291|51=>181|20=>20|213=>292|46=>139|232=>302|233=>303|n=>n,fun|17=>7|18=>9|19=>10|n=>n⟩
theorem Tryz.laysM171:Go.Proofs.LaysM.n171 Tryz.prog Tryz.laysM171_ren:= {
 mixed:=by kernel_rfl
 f129:=Tryz.func233.trans (congrArg some (by kernel_rfl))
 f171:=Tryz.func108.trans (congrArg some (by kernel_rfl))
 f243:=Tryz.func156.trans (congrArg some (by kernel_rfl))
 f246:=Tryz.func197.trans (congrArg some (by kernel_rfl))
 f283:=Tryz.func217.trans (congrArg some (by kernel_rfl))
 f284:=Tryz.func218.trans (congrArg some (by kernel_rfl))
 f285:=Tryz.func219.trans (congrArg some (by kernel_rfl))
 f286:=Tryz.func220.trans (congrArg some (by kernel_rfl))
 f317:=Tryz.func232.trans (congrArg some (by kernel_rfl))
 f318:=Tryz.func234.trans (congrArg some (by kernel_rfl))
 f319:=Tryz.func235.trans (congrArg some (by kernel_rfl))
 f320:=Tryz.func236.trans (congrArg some (by kernel_rfl))
 f337:=Tryz.func241.trans (congrArg some (by kernel_rfl))
 f338:=Tryz.func242.trans (congrArg some (by kernel_rfl))
 t0:=Tryz.underlying0
 a0:=Tryz.isAgg0
 z0:=Tryz.sizeOf0
 v0:=Tryz.zeroValue0
 t2:=Tryz.underlying2
 a2:=Tryz.isAgg2
 z2:=Tryz.sizeOf2
 v2:=Tryz.zeroValue2
 t3:=Tryz.underlying3
 a3:=Tryz.isAgg3
 z3:=Tryz.sizeOf3
 v3:=Tryz.zeroValue3
 t4:=Tryz.underlying4
 a4:=Tryz.isAgg4
 z4:=Tryz.sizeOf4
 v4:=Tryz.zeroValue4
 t5:=Tryz.underlying5
 a5:=Tryz.isAgg5
 z5:=Tryz.sizeOf5
 v5:=Tryz.zeroValue5
 t9:=Tryz.underlying9
 a9:=Tryz.isAgg9
 z9:=Tryz.sizeOf9
 v9:=Tryz.zeroValue9
 t20:=Tryz.underlying20
 a20:=Tryz.isAgg20
 z20:=Tryz.sizeOf20
 v20:=Tryz.zeroValue20
 t37:=Tryz.underlying22
 a37:=Tryz.isAgg22
 z37:=Tryz.sizeOf22
 v37:=Tryz.zeroValue22
 t46:=Tryz.underlying139
 a46:=Tryz.isAgg139
 z46:=Tryz.sizeOf139
 v46:=Tryz.zeroValue139
 t51:=Tryz.underlying181
 a51:=Tryz.isAgg181
 z51:=Tryz.sizeOf181
 v51:=Tryz.zeroValue181
 t53:=Tryz.underlying134
 a53:=Tryz.isAgg134
 z53:=Tryz.sizeOf134
 v53:=Tryz.zeroValue134
 t171:=Tryz.underlying272
 a171:=Tryz.isAgg272
 z171:=Tryz.sizeOf272
 v171:=Tryz.zeroValue272
 t173:=Tryz.underlying275
 a173:=Tryz.isAgg275
 z173:=Tryz.sizeOf275
 v173:=Tryz.zeroValue275
 t212:=Tryz.underlying291
 a212:=Tryz.isAgg291
 z212:=Tryz.sizeOf291
 v212:=Tryz.zeroValue291
 t213:=Tryz.underlying292
 a213:=Tryz.isAgg292
 z213:=Tryz.sizeOf292
 t232:=Tryz.underlying302
 a232:=Tryz.isAgg302
 z232:=Tryz.sizeOf302
 v232:=Tryz.zeroValue302
 t233:=Tryz.underlying303
 a233:=Tryz.isAgg303
 z233:=Tryz.sizeOf303
 v233:=Tryz.zeroValue303
 g17:=by kernel_rfl
 g18:=by kernel_rfl
 g19:=by kernel_rfl
 i0:=by kernel_rfl
 i2:=by kernel_rfl
 i3:=by kernel_rfl
 i4:=by kernel_rfl
 i5:=by kernel_rfl
 i9:=by kernel_rfl
 i20:=by kernel_rfl
 i37:=by kernel_rfl
 i46:=by kernel_rfl
 i51:=by kernel_rfl
 i53:=by kernel_rfl
 i171:=by kernel_rfl
 i173:=by kernel_rfl
 i212:=by kernel_rfl
 i232:=by kernel_rfl
 i233:=by kernel_rfl
 m17:=by kernel_rfl
 m18:=by kernel_rfl
 m19:=by kernel_rfl }
open Go.RowKit Go.Sort Go.Lib in
theorem Tryz.strconv_Itoa (n:Int) (h0: -9223372036854775808≤n) (h1:n≤9223372036854775807) (w:World) (htab:Lib.TabIs Tryz.prog w "internal/strconv.uint64pow10" .u64 Lib.pow10Tab):
 Calls Tryz.prog 108 #[.int .i64 n] w fun e w'=>e= .returned (.string ⟨(Lib.itoa n).toArray⟩)∧ ∃ k os,w'=grow (w.drewN k) os:=Any.strconv_Itoa Tryz.laysM171 n h0 h1 w htab
def Tryz.laysC172_ren:Go.Shelf.Ren:=⟨fun|172=>107|244=>154|245=>155|247=>192|279=>193|280=>194|281=>195|282=>196|287=>214|316=>215|171=>108|205=>216|321=>230|322=>231|243=>156|246=>197|283=>217|284=>218|285=>219|286=>220|129=>233|317=>232|318=>234|319=>235|320=>236|337=>241|338=>242|n=>n,fun|9=>9|3=>3|75=>25|76=>26|4=>4|5=>5|167=>248|37=>22|0=>0|85=>249|2=>2|168=>251|53=>134|175=>267|46=>139|210=>270|127=>221|145=>289|143=>287|21=>21|171=>272|173=>275|212=>291|51=>181|20=>20|213=>292|232=>302|233=>303|80=>174|n=>n,fun|15=>2|16=>3|17=>7|18=>9|19=>10|n=>n⟩
theorem Tryz.laysC172:Go.Proofs.LaysC.n172 Tryz.prog Tryz.laysC172_ren:= {
 mixed:=by kernel_rfl
 f129:=Tryz.func233.trans (congrArg some (by kernel_rfl))
 f171:=Tryz.func108.trans (congrArg some (by kernel_rfl))
 f172:=Tryz.func107.trans (congrArg some (by kernel_rfl))
 f205:=Tryz.func216.trans (congrArg some (by kernel_rfl))
 f243:=Tryz.func156.trans (congrArg some (by kernel_rfl))
 f244:=Tryz.func154.trans (congrArg some (by kernel_rfl))
 f245:=Tryz.func155.trans (congrArg some (by kernel_rfl))
 f246:=Tryz.func197.trans (congrArg some (by kernel_rfl))
 f247:=Tryz.func192.trans (congrArg some (by kernel_rfl))
 f279:=Tryz.func193.trans (congrArg some (by kernel_rfl))
 f280:=Tryz.func194.trans (congrArg some (by kernel_rfl))
 f281:=Tryz.func195.trans (congrArg some (by kernel_rfl))
 f282:=Tryz.func196.trans (congrArg some (by kernel_rfl))
 f283:=Tryz.func217.trans (congrArg some (by kernel_rfl))
 f284:=Tryz.func218.trans (congrArg some (by kernel_rfl))
 f285:=Tryz.func219.trans (congrArg some (by kernel_rfl))
 f286:=Tryz.func220.trans (congrArg some (by kernel_rfl))
 f287:=Tryz.func214.trans (congrArg some (by kernel_rfl))
 f316:=Tryz.func215.trans (congrArg some (by kernel_rfl))
 f317:=Tryz.func232.trans (congrArg some (by kernel_rfl))
 f318:=Tryz.func234.trans (congrArg some (by kernel_rfl))
 f319:=Tryz.func235.trans (congrArg some (by kernel_rfl))
 f320:=Tryz.func236.trans (congrArg some (by kernel_rfl))
 f321:=Tryz.func230.trans (congrArg some (by kernel_rfl))
 f322:=Tryz.func231.trans (congrArg some (by kernel_rfl))
 f337:=Tryz.func241.trans (congrArg some (by kernel_rfl))
 f338:=Tryz.func242.trans (congrArg some (by kernel_rfl))
 t0:=Tryz.underlying0
 a0:=Tryz.isAgg0
 z0:=Tryz.sizeOf0
 v0:=Tryz.zeroValue0
 t2:=Tryz.underlying2
 a2:=Tryz.isAgg2
 z2:=Tryz.sizeOf2
 v2:=Tryz.zeroValue2
 t3:=Tryz.underlying3
 a3:=Tryz.isAgg3
 z3:=Tryz.sizeOf3
 v3:=Tryz.zeroValue3
 t4:=Tryz.underlying4
 a4:=Tryz.isAgg4
 z4:=Tryz.sizeOf4
 v4:=Tryz.zeroValue4
 t5:=Tryz.underlying5
 a5:=Tryz.isAgg5
 z5:=Tryz.sizeOf5
 v5:=Tryz.zeroValue5
 t9:=Tryz.underlying9
 a9:=Tryz.isAgg9
 z9:=Tryz.sizeOf9
 v9:=Tryz.zeroValue9
 t20:=Tryz.underlying20
 a20:=Tryz.isAgg20
 z20:=Tryz.sizeOf20
 v20:=Tryz.zeroValue20
 t21:=Tryz.underlying21
 a21:=Tryz.isAgg21
 z21:=Tryz.sizeOf21
 v21:=Tryz.zeroValue21
 t37:=Tryz.underlying22
 a37:=Tryz.isAgg22
 z37:=Tryz.sizeOf22
 v37:=Tryz.zeroValue22
 t46:=Tryz.underlying139
 a46:=Tryz.isAgg139
 z46:=Tryz.sizeOf139
 v46:=Tryz.zeroValue139
 t51:=Tryz.underlying181
 a51:=Tryz.isAgg181
 z51:=Tryz.sizeOf181
 v51:=Tryz.zeroValue181
 t53:=Tryz.underlying134
 a53:=Tryz.isAgg134
 z53:=Tryz.sizeOf134
 v53:=Tryz.zeroValue134
 t75:=Tryz.underlying25
 a75:=Tryz.isAgg25
 z75:=Tryz.sizeOf25
 v75:=Tryz.zeroValue25
 t76:=Tryz.underlying26
 a76:=Tryz.isAgg26
 z76:=Tryz.sizeOf26
 v76:=Tryz.zeroValue26
 t85:=Tryz.underlying249
 a85:=Tryz.isAgg249
 z85:=Tryz.sizeOf249
 v85:=Tryz.zeroValue249
 t127:=Tryz.underlying221
 a127:=Tryz.isAgg221
 z127:=Tryz.sizeOf221
 v127:=Tryz.zeroValue221
 t143:=Tryz.underlying287
 a143:=Tryz.isAgg287
 z143:=Tryz.sizeOf287
 v143:=Tryz.zeroValue287
 t145:=Tryz.underlying289
 a145:=Tryz.isAgg289
 z145:=Tryz.sizeOf289
 v145:=Tryz.zeroValue289
 t167:=Tryz.underlying248
 a167:=Tryz.isAgg248
 z167:=Tryz.sizeOf248
 v167:=Tryz.zeroValue248
 t168:=Tryz.underlying251
 a168:=Tryz.isAgg251
 z168:=Tryz.sizeOf251
 v168:=Tryz.zeroValue251
 t171:=Tryz.underlying272
 a171:=Tryz.isAgg272
 z171:=Tryz.sizeOf272
 v171:=Tryz.zeroValue272
 t173:=Tryz.underlying275
 a173:=Tryz.isAgg275
 z173:=Tryz.sizeOf275
 v173:=Tryz.zeroValue275
 t175:=Tryz.underlying267
 a175:=Tryz.isAgg267
 z175:=Tryz.sizeOf267
 v175:=Tryz.zeroValue267
 t210:=Tryz.underlying270
 a210:=Tryz.isAgg270
 z210:=Tryz.sizeOf270
 v210:=Tryz.zeroValue270
 t212:=Tryz.underlying291
 a212:=Tryz.isAgg291
 z212:=Tryz.sizeOf291
 v212:=Tryz.zeroValue291
 t213:=Tryz.underlying292
 a213:=Tryz.isAgg292
 z213:=Tryz.sizeOf292
 t232:=Tryz.underlying302
 a232:=Tryz.isAgg302
 z232:=Tryz.sizeOf302
 v232:=Tryz.zeroValue302
 t233:=Tryz.underlying303
 a233:=Tryz.isAgg303
 z233:=Tryz.sizeOf303
 v233:=Tryz.zeroValue303
 g15:=by kernel_rfl
 g16:=by kernel_rfl
 g17:=by kernel_rfl
 g18:=by kernel_rfl
 g19:=by kernel_rfl
 t80:=Tryz.underlying174
 a80:=Tryz.isAgg174
 z80:=Tryz.sizeOf174
 v80:=Tryz.zeroValue174
 i0:=by kernel_rfl
 i2:=by kernel_rfl
 i3:=by kernel_rfl
 i4:=by kernel_rfl
 i5:=by kernel_rfl
 i9:=by kernel_rfl
 i20:=by kernel_rfl
 i21:=by kernel_rfl
 i37:=by kernel_rfl
 i46:=by kernel_rfl
 i51:=by kernel_rfl
 i53:=by kernel_rfl
 i75:=by kernel_rfl
 i76:=by kernel_rfl
 i80:=by kernel_rfl
 i85:=by kernel_rfl
 i127:=by kernel_rfl
 i143:=by kernel_rfl
 i145:=by kernel_rfl
 i167:=by kernel_rfl
 i168:=by kernel_rfl
 i171:=by kernel_rfl
 i173:=by kernel_rfl
 i175:=by kernel_rfl
 i210:=by kernel_rfl
 i212:=by kernel_rfl
 i232:=by kernel_rfl
 i233:=by kernel_rfl
 m15:=by kernel_rfl
 m16:=by kernel_rfl
 m17:=by kernel_rfl
 m18:=by kernel_rfl
 m19:=by kernel_rfl
 c0:=by kernel_rfl
 c2:=by kernel_rfl
 c3:=by kernel_rfl
 c4:=by kernel_rfl
 c5:=by kernel_rfl
 c9:=by kernel_rfl
 c20:=by kernel_rfl
 c21:=by kernel_rfl
 c37:=by kernel_rfl
 c46:=by kernel_rfl
 c51:=by kernel_rfl
 c53:=by kernel_rfl
 c75:=by kernel_rfl
 c76:=by kernel_rfl
 c80:=by kernel_rfl
 c85:=by kernel_rfl
 c127:=by kernel_rfl
 c143:=by kernel_rfl
 c145:=by kernel_rfl
 c167:=by kernel_rfl
 c168:=by kernel_rfl
 c171:=by kernel_rfl
 c173:=by kernel_rfl
 c175:=by kernel_rfl
 c210:=by kernel_rfl
 c212:=by kernel_rfl
 c213:=by kernel_rfl
 c232:=by kernel_rfl
 c233:=by kernel_rfl }
open Go.RowKit in
theorem Tryz.strconv_Atoi_ok (s:ByteArray) (hmax:s.size≤9223372036854775806) (v:Int) (h:Lib.atoiAll s.data.toList= .ok v) (w:World):
 Calls Tryz.prog 107 #[.string s] w fun e w'=>e= .returned (.tuple #[.int .i64 v,.nilIface])∧(w'=w∨ ∃ t,w'=Lib.bytesWorld w 5 t):=Any.strconv_Atoi_ok Tryz.laysC172 s hmax v h w
open Go.RowKit in
theorem Tryz.strconv_Atoi_syntax (s:ByteArray) (hlim:s.size≤281474976710656) (h:Lib.atoiAll s.data.toList=Lib.atoiAll []) (ev:Value) (w:World) (hv:w.cell? ⟨2,0,none⟩=some ev) (hev:ev= .nilIface∨ ∃ te pe,ev= .iface te pe):
 Calls Tryz.prog 107 #[.string s] w fun e w'=> ∃ N,e= .returned (.tuple #[.int .i64 (0),.iface 251 (.pointer (some ⟨N,0,none⟩))])∧w.heap.size≤N∧w'.heap[N]? =some (.cells #[.string ⟨#[65,116,111,105]⟩,.string s,ev] 270 (0,0))∧Below w.heap.size w w':=Any.strconv_Atoi_syntax Tryz.laysC172 s hlim h ev w hv hev
open Go.RowKit in
theorem Tryz.strconv_Atoi_range (s:ByteArray) (hlim:s.size≤281474976710656) (h:Lib.atoiAll s.data.toList= .range) (ev:Value) (w:World) (hv:w.cell? ⟨3,0,none⟩=some ev) (hev:ev= .nilIface∨ ∃ te pe,ev= .iface te pe):
 Calls Tryz.prog 107 #[.string s] w fun e w'=> ∃ N,e= .returned (.tuple #[.int .i64 (Lib.atoiSat s.data.toList),.iface 251 (.pointer (some ⟨N,0,none⟩))])∧w.heap.size≤N∧w'.heap[N]? =some (.cells #[.string ⟨#[65,116,111,105]⟩,.string s,ev] 270 (0,0))∧Below w.heap.size w w':=Any.strconv_Atoi_range Tryz.laysC172 s hlim h ev w hv hev
def Tryz.lays144_ren:Go.Shelf.Ren:=⟨fun|144=>98|143=>130|219=>170|217=>177|225=>203|224=>89|267=>204|266=>207|314=>225|n=>n,fun|9=>9|4=>4|3=>3|5=>5|46=>139|146=>182|51=>181|n=>n,fun|1=>0|n=>n⟩
theorem Tryz.lays144:Go.Proofs.Lays.n144 Tryz.prog Tryz.lays144_ren:= {
 mixed:=by kernel_rfl
 f143:=Tryz.func130.trans (congrArg some (by kernel_rfl))
 f144:=Tryz.func98.trans (congrArg some (by kernel_rfl))
 f217:=Tryz.func177.trans (congrArg some (by kernel_rfl))
 f219:=Tryz.func170.trans (congrArg some (by kernel_rfl))
 f224:=Tryz.func89.trans (congrArg some (by kernel_rfl))
 f225:=Tryz.func203.trans (congrArg some (by kernel_rfl))
 f266:=Tryz.func207.trans (congrArg some (by kernel_rfl))
 f267:=Tryz.func204.trans (congrArg some (by kernel_rfl))
 f314:=Tryz.func225.trans (congrArg some (by kernel_rfl))
 t3:=Tryz.underlying3
 a3:=Tryz.isAgg3
 z3:=Tryz.sizeOf3
 v3:=Tryz.zeroValue3
 t4:=Tryz.underlying4
 a4:=Tryz.isAgg4
 z4:=Tryz.sizeOf4
 v4:=Tryz.zeroValue4
 t5:=Tryz.underlying5
 a5:=Tryz.isAgg5
 z5:=Tryz.sizeOf5
 v5:=Tryz.zeroValue5
 t9:=Tryz.underlying9
 a9:=Tryz.isAgg9
 z9:=Tryz.sizeOf9
 v9:=Tryz.zeroValue9
 t46:=Tryz.underlying139
 a46:=Tryz.isAgg139
 z46:=Tryz.sizeOf139
 v46:=Tryz.zeroValue139
 t51:=Tryz.underlying181
 a51:=Tryz.isAgg181
 z51:=Tryz.sizeOf181
 v51:=Tryz.zeroValue181
 t146:=Tryz.underlying182
 a146:=Tryz.isAgg182
 z146:=Tryz.sizeOf182
 v146:=Tryz.zeroValue182
 g1:=by kernel_rfl }
open Go.RowKit Go.Lib in
theorem Tryz.strings_Contains (s sub:ByteArray) (m:Int) (w:World) (hs:s.size<4294967281) (hm:w.cell? ⟨0,0,none⟩=some (.int .i64 m)):
 Calls Tryz.prog 98 #[.string s,.string sub] w fun e w'=>e= .returned (.bool (Lib.contains s.data.toList sub.data.toList))∧w'=w:=Any.strings_Contains Tryz.lays144 s sub m w hs hm
def Tryz.lays145_ren:Go.Shelf.Ren:=⟨fun|145=>91|220=>127|219=>170|217=>177|225=>203|224=>89|267=>204|266=>207|314=>225|n=>n,fun|9=>9|4=>4|59=>147|3=>3|5=>5|46=>139|146=>182|51=>181|n=>n,fun|1=>0|n=>n⟩
theorem Tryz.lays145:Go.Proofs.Lays.n145 Tryz.prog Tryz.lays145_ren:= {
 mixed:=by kernel_rfl
 f145:=Tryz.func91.trans (congrArg some (by kernel_rfl))
 f217:=Tryz.func177.trans (congrArg some (by kernel_rfl))
 f219:=Tryz.func170.trans (congrArg some (by kernel_rfl))
 f220:=Tryz.func127.trans (congrArg some (by kernel_rfl))
 f224:=Tryz.func89.trans (congrArg some (by kernel_rfl))
 f225:=Tryz.func203.trans (congrArg some (by kernel_rfl))
 f266:=Tryz.func207.trans (congrArg some (by kernel_rfl))
 f267:=Tryz.func204.trans (congrArg some (by kernel_rfl))
 f314:=Tryz.func225.trans (congrArg some (by kernel_rfl))
 t3:=Tryz.underlying3
 a3:=Tryz.isAgg3
 z3:=Tryz.sizeOf3
 v3:=Tryz.zeroValue3
 t4:=Tryz.underlying4
 a4:=Tryz.isAgg4
 z4:=Tryz.sizeOf4
 v4:=Tryz.zeroValue4
 t5:=Tryz.underlying5
 a5:=Tryz.isAgg5
 z5:=Tryz.sizeOf5
 v5:=Tryz.zeroValue5
 t9:=Tryz.underlying9
 a9:=Tryz.isAgg9
 z9:=Tryz.sizeOf9
 v9:=Tryz.zeroValue9
 t46:=Tryz.underlying139
 a46:=Tryz.isAgg139
 z46:=Tryz.sizeOf139
 v46:=Tryz.zeroValue139
 t51:=Tryz.underlying181
 a51:=Tryz.isAgg181
 z51:=Tryz.sizeOf181
 v51:=Tryz.zeroValue181
 t59:=Tryz.underlying147
 a59:=Tryz.isAgg147
 z59:=Tryz.sizeOf147
 v59:=Tryz.zeroValue147
 t146:=Tryz.underlying182
 a146:=Tryz.isAgg182
 z146:=Tryz.sizeOf182
 v146:=Tryz.zeroValue182
 g1:=by kernel_rfl }
open Go.RowKit Go.Lib in
theorem Tryz.strings_Cut (s sep:ByteArray) (m:Int) (w:World) (hs:s.size<4294967281) (hm:w.cell? ⟨0,0,none⟩=some (.int .i64 m)):
 Calls Tryz.prog 91 #[.string s,.string sep] w fun e w'=>e= .returned (.tuple #[.string ⟨(Lib.cut s.data.toList sep.data.toList).1.toArray⟩,.string ⟨(Lib.cut s.data.toList sep.data.toList).2.1.toArray⟩,.bool (Lib.cut s.data.toList sep.data.toList).2.2])∧ ∃ n,w'=w.drewN n:=Any.strings_Cut Tryz.lays145 s sep m w hs hm
def Tryz.lays149_ren:Go.Shelf.Ren:=⟨fun|149=>134|222=>178|n=>n,fun|9=>9|5=>5|3=>3|4=>4|n=>n,fun|n=>n⟩
theorem Tryz.lays149:Go.Proofs.Lays.n149 Tryz.prog Tryz.lays149_ren:= {
 mixed:=by kernel_rfl
 f149:=Tryz.func134.trans (congrArg some (by kernel_rfl))
 f222:=Tryz.func178.trans (congrArg some (by kernel_rfl))
 t3:=Tryz.underlying3
 a3:=Tryz.isAgg3
 z3:=Tryz.sizeOf3
 v3:=Tryz.zeroValue3
 t4:=Tryz.underlying4
 a4:=Tryz.isAgg4
 z4:=Tryz.sizeOf4
 v4:=Tryz.zeroValue4
 t5:=Tryz.underlying5
 a5:=Tryz.isAgg5
 z5:=Tryz.sizeOf5
 v5:=Tryz.zeroValue5
 t9:=Tryz.underlying9
 a9:=Tryz.isAgg9
 z9:=Tryz.sizeOf9
 v9:=Tryz.zeroValue9 }
open Go.RowKit Go.Lib in
theorem Tryz.strings_LastIndexByte (s:ByteArray) (c:Int) (hs:s.size<4611686018427387904) (w:World):
 Calls Tryz.prog 134 #[.string s,.int .u8 c] w fun e w'=>e= .returned (.int .i64 (Lib.lastIndexByte s c))∧w'=w:=Any.strings_LastIndexByte Tryz.lays149 s c hs w
def Tryz.lays146_ren:Go.Shelf.Ren:=⟨fun|146=>50|221=>92|268=>128|138=>129|143=>130|195=>171|197=>172|218=>173|219=>170|260=>205|217=>177|225=>203|224=>89|267=>204|266=>207|314=>225|n=>n,fun|9=>9|31=>104|3=>3|4=>4|0=>0|105=>232|21=>21|5=>5|46=>139|119=>279|139=>282|138=>281|146=>182|51=>181|n=>n,fun|1=>0|3=>5|4=>6|n=>n⟩
theorem Tryz.lays146:Go.Proofs.Lays.n146 Tryz.prog Tryz.lays146_ren:= {
 mixed:=by kernel_rfl
 f138:=Tryz.func129.trans (congrArg some (by kernel_rfl))
 f143:=Tryz.func130.trans (congrArg some (by kernel_rfl))
 f146:=Tryz.func50.trans (congrArg some (by kernel_rfl))
 f195:=Tryz.func171.trans (congrArg some (by kernel_rfl))
 f197:=Tryz.func172.trans (congrArg some (by kernel_rfl))
 f217:=Tryz.func177.trans (congrArg some (by kernel_rfl))
 f218:=Tryz.func173.trans (congrArg some (by kernel_rfl))
 f219:=Tryz.func170.trans (congrArg some (by kernel_rfl))
 f221:=Tryz.func92.trans (congrArg some (by kernel_rfl))
 f224:=Tryz.func89.trans (congrArg some (by kernel_rfl))
 f225:=Tryz.func203.trans (congrArg some (by kernel_rfl))
 f260:=Tryz.func205.trans (congrArg some (by kernel_rfl))
 f266:=Tryz.func207.trans (congrArg some (by kernel_rfl))
 f267:=Tryz.func204.trans (congrArg some (by kernel_rfl))
 f268:=Tryz.func128.trans (congrArg some (by kernel_rfl))
 f314:=Tryz.func225.trans (congrArg some (by kernel_rfl))
 t0:=Tryz.underlying0
 a0:=Tryz.isAgg0
 z0:=Tryz.sizeOf0
 v0:=Tryz.zeroValue0
 t3:=Tryz.underlying3
 a3:=Tryz.isAgg3
 z3:=Tryz.sizeOf3
 v3:=Tryz.zeroValue3
 t4:=Tryz.underlying4
 a4:=Tryz.isAgg4
 z4:=Tryz.sizeOf4
 v4:=Tryz.zeroValue4
 t5:=Tryz.underlying5
 a5:=Tryz.isAgg5
 z5:=Tryz.sizeOf5
 v5:=Tryz.zeroValue5
 t9:=Tryz.underlying9
 a9:=Tryz.isAgg9
 z9:=Tryz.sizeOf9
 v9:=Tryz.zeroValue9
 t21:=Tryz.underlying21
 a21:=Tryz.isAgg21
 z21:=Tryz.sizeOf21
 v21:=Tryz.zeroValue21
 t31:=Tryz.underlying104
 a31:=Tryz.isAgg104
 z31:=Tryz.sizeOf104
 v31:=Tryz.zeroValue104
 t46:=Tryz.underlying139
 a46:=Tryz.isAgg139
 z46:=Tryz.sizeOf139
 v46:=Tryz.zeroValue139
 t51:=Tryz.underlying181
 a51:=Tryz.isAgg181
 z51:=Tryz.sizeOf181
 v51:=Tryz.zeroValue181
 t105:=Tryz.underlying232
 a105:=Tryz.isAgg232
 z105:=Tryz.sizeOf232
 v105:=Tryz.zeroValue232
 t119:=Tryz.underlying279
 a119:=Tryz.isAgg279
 z119:=Tryz.sizeOf279
 t138:=Tryz.underlying281
 a138:=Tryz.isAgg281
 z138:=Tryz.sizeOf281
 v138:=Tryz.zeroValue281
 t139:=Tryz.underlying282
 a139:=Tryz.isAgg282
 z139:=Tryz.sizeOf282
 v139:=Tryz.zeroValue282
 t146:=Tryz.underlying182
 a146:=Tryz.isAgg182
 z146:=Tryz.sizeOf182
 v146:=Tryz.zeroValue182
 g1:=by kernel_rfl
 g3:=by kernel_rfl
 g4:=by kernel_rfl }
open Go.RowKit Go.Lib in
theorem Tryz.strings_Split (s sep:ByteArray) (m:Int) (w:World) (hs:s.size<4294967281) (hm:w.cell? ⟨0,0,none⟩=some (.int .i64 m)) (h1:1≤sep.size):
 Calls Tryz.prog 50 #[.string s,.string sep] w fun e w'=>
  e= .returned (.slice (some ⟨w.heap.size,0,none⟩) (Lib.countB s sep+1) (Lib.countB s sep+1))∧w'=w.alloc (.cells ((Lib.splitB sep 0 (Lib.countB s sep) s).map Value.string).toArray 9):=Any.strings_Split Tryz.lays146 (by kernel_rfl) s sep m w hs hm h1
def Tryz.lays147_ren:Go.Shelf.Ren:=⟨fun|147=>63|221=>92|268=>128|138=>129|143=>130|195=>171|197=>172|218=>173|219=>170|260=>205|217=>177|225=>203|224=>89|267=>204|266=>207|314=>225|n=>n,fun|9=>9|3=>3|31=>104|4=>4|0=>0|105=>232|21=>21|5=>5|46=>139|119=>279|139=>282|138=>281|146=>182|51=>181|n=>n,fun|1=>0|3=>5|4=>6|n=>n⟩
theorem Tryz.lays147:Go.Proofs.Lays.n147 Tryz.prog Tryz.lays147_ren:= {
 mixed:=by kernel_rfl
 f138:=Tryz.func129.trans (congrArg some (by kernel_rfl))
 f143:=Tryz.func130.trans (congrArg some (by kernel_rfl))
 f147:=Tryz.func63.trans (congrArg some (by kernel_rfl))
 f195:=Tryz.func171.trans (congrArg some (by kernel_rfl))
 f197:=Tryz.func172.trans (congrArg some (by kernel_rfl))
 f217:=Tryz.func177.trans (congrArg some (by kernel_rfl))
 f218:=Tryz.func173.trans (congrArg some (by kernel_rfl))
 f219:=Tryz.func170.trans (congrArg some (by kernel_rfl))
 f221:=Tryz.func92.trans (congrArg some (by kernel_rfl))
 f224:=Tryz.func89.trans (congrArg some (by kernel_rfl))
 f225:=Tryz.func203.trans (congrArg some (by kernel_rfl))
 f260:=Tryz.func205.trans (congrArg some (by kernel_rfl))
 f266:=Tryz.func207.trans (congrArg some (by kernel_rfl))
 f267:=Tryz.func204.trans (congrArg some (by kernel_rfl))
 f268:=Tryz.func128.trans (congrArg some (by kernel_rfl))
 f314:=Tryz.func225.trans (congrArg some (by kernel_rfl))
 t0:=Tryz.underlying0
 a0:=Tryz.isAgg0
 z0:=Tryz.sizeOf0
 v0:=Tryz.zeroValue0
 t3:=Tryz.underlying3
 a3:=Tryz.isAgg3
 z3:=Tryz.sizeOf3
 v3:=Tryz.zeroValue3
 t4:=Tryz.underlying4
 a4:=Tryz.isAgg4
 z4:=Tryz.sizeOf4
 v4:=Tryz.zeroValue4
 t5:=Tryz.underlying5
 a5:=Tryz.isAgg5
 z5:=Tryz.sizeOf5
 v5:=Tryz.zeroValue5
 t9:=Tryz.underlying9
 a9:=Tryz.isAgg9
 z9:=Tryz.sizeOf9
 v9:=Tryz.zeroValue9
 t21:=Tryz.underlying21
 a21:=Tryz.isAgg21
 z21:=Tryz.sizeOf21
 v21:=Tryz.zeroValue21
 t31:=Tryz.underlying104
 a31:=Tryz.isAgg104
 z31:=Tryz.sizeOf104
 v31:=Tryz.zeroValue104
 t46:=Tryz.underlying139
 a46:=Tryz.isAgg139
 z46:=Tryz.sizeOf139
 v46:=Tryz.zeroValue139
 t51:=Tryz.underlying181
 a51:=Tryz.isAgg181
 z51:=Tryz.sizeOf181
 v51:=Tryz.zeroValue181
 t105:=Tryz.underlying232
 a105:=Tryz.isAgg232
 z105:=Tryz.sizeOf232
 v105:=Tryz.zeroValue232
 t119:=Tryz.underlying279
 a119:=Tryz.isAgg279
 z119:=Tryz.sizeOf279
 t138:=Tryz.underlying281
 a138:=Tryz.isAgg281
 z138:=Tryz.sizeOf281
 v138:=Tryz.zeroValue281
 t139:=Tryz.underlying282
 a139:=Tryz.isAgg282
 z139:=Tryz.sizeOf282
 v139:=Tryz.zeroValue282
 t146:=Tryz.underlying182
 a146:=Tryz.isAgg182
 z146:=Tryz.sizeOf182
 v146:=Tryz.zeroValue182
 g1:=by kernel_rfl
 g3:=by kernel_rfl
 g4:=by kernel_rfl }
open Go.RowKit Go.Lib in
theorem Tryz.strings_SplitN (s sep:ByteArray) (n:Nat) (m:Int) (w:World) (hs:s.size<4294967281) (hm:w.cell? ⟨0,0,none⟩=some (.int .i64 m)) (h1:1≤sep.size) (hn:1≤n) (hn63:n≤9223372036854775807):
 Calls Tryz.prog 63 #[.string s,.string sep,.int .i64 n] w fun e w'=>
  e= .returned (.slice (some ⟨w.heap.size,0,none⟩) (Lib.splitB sep 0 (min n (s.size+1) - 1) s).length (min n (s.size+1)))∧w'=w.alloc (.cells (Lib.cellsOf (Lib.splitB sep 0 (min n (s.size+1) - 1) s) (min n (s.size+1))) 9):=Any.strings_SplitN Tryz.lays147 (by kernel_rfl) s sep n m w hs hm h1 hn hn63
def Tryz.lays155_ren:Go.Shelf.Ren:=⟨fun|155=>148|154=>189|138=>129|165=>198|143=>130|166=>113|197=>172|169=>115|195=>171|218=>173|240=>159|241=>221|219=>170|260=>205|276=>199|277=>237|217=>177|225=>203|224=>89|267=>204|266=>207|314=>225|n=>n,fun|9=>9|3=>3|4=>4|72=>172|0=>0|76=>26|105=>232|21=>21|5=>5|70=>170|20=>20|37=>22|75=>25|127=>221|164=>235|46=>139|119=>279|139=>282|138=>281|146=>182|51=>181|80=>174|n=>n,fun|1=>0|3=>5|4=>6|n=>n⟩
theorem Tryz.lays155:Go.Proofs.Lays.n155 Tryz.prog Tryz.lays155_ren:= {
 mixed:=by kernel_rfl
 f138:=Tryz.func129.trans (congrArg some (by kernel_rfl))
 f143:=Tryz.func130.trans (congrArg some (by kernel_rfl))
 f154:=Tryz.func189.trans (congrArg some (by kernel_rfl))
 f155:=Tryz.func148.trans (congrArg some (by kernel_rfl))
 f165:=Tryz.func198.trans (congrArg some (by kernel_rfl))
 f166:=Tryz.func113.trans (congrArg some (by kernel_rfl))
 f169:=Tryz.func115.trans (congrArg some (by kernel_rfl))
 f195:=Tryz.func171.trans (congrArg some (by kernel_rfl))
 f197:=Tryz.func172.trans (congrArg some (by kernel_rfl))
 f217:=Tryz.func177.trans (congrArg some (by kernel_rfl))
 f218:=Tryz.func173.trans (congrArg some (by kernel_rfl))
 f219:=Tryz.func170.trans (congrArg some (by kernel_rfl))
 f224:=Tryz.func89.trans (congrArg some (by kernel_rfl))
 f225:=Tryz.func203.trans (congrArg some (by kernel_rfl))
 f240:=Tryz.func159.trans (congrArg some (by kernel_rfl))
 f241:=Tryz.func221.trans (congrArg some (by kernel_rfl))
 f260:=Tryz.func205.trans (congrArg some (by kernel_rfl))
 f266:=Tryz.func207.trans (congrArg some (by kernel_rfl))
 f267:=Tryz.func204.trans (congrArg some (by kernel_rfl))
 f276:=Tryz.func199.trans (congrArg some (by kernel_rfl))
 f277:=Tryz.func237.trans (congrArg some (by kernel_rfl))
 f314:=Tryz.func225.trans (congrArg some (by kernel_rfl))
 t0:=Tryz.underlying0
 a0:=Tryz.isAgg0
 z0:=Tryz.sizeOf0
 v0:=Tryz.zeroValue0
 t3:=Tryz.underlying3
 a3:=Tryz.isAgg3
 z3:=Tryz.sizeOf3
 v3:=Tryz.zeroValue3
 t4:=Tryz.underlying4
 a4:=Tryz.isAgg4
 z4:=Tryz.sizeOf4
 v4:=Tryz.zeroValue4
 t5:=Tryz.underlying5
 a5:=Tryz.isAgg5
 z5:=Tryz.sizeOf5
 v5:=Tryz.zeroValue5
 t9:=Tryz.underlying9
 a9:=Tryz.isAgg9
 z9:=Tryz.sizeOf9
 v9:=Tryz.zeroValue9
 t20:=Tryz.underlying20
 a20:=Tryz.isAgg20
 z20:=Tryz.sizeOf20
 v20:=Tryz.zeroValue20
 t21:=Tryz.underlying21
 a21:=Tryz.isAgg21
 z21:=Tryz.sizeOf21
 v21:=Tryz.zeroValue21
 t37:=Tryz.underlying22
 a37:=Tryz.isAgg22
 z37:=Tryz.sizeOf22
 v37:=Tryz.zeroValue22
 t46:=Tryz.underlying139
 a46:=Tryz.isAgg139
 z46:=Tryz.sizeOf139
 v46:=Tryz.zeroValue139
 t51:=Tryz.underlying181
 a51:=Tryz.isAgg181
 z51:=Tryz.sizeOf181
 v51:=Tryz.zeroValue181
 t70:=Tryz.underlying170
 a70:=Tryz.isAgg170
 z70:=Tryz.sizeOf170
 v70:=Tryz.zeroValue170
 t72:=Tryz.underlying172
 a72:=Tryz.isAgg172
 z72:=Tryz.sizeOf172
 v72:=Tryz.zeroValue172
 t75:=Tryz.underlying25
 a75:=Tryz.isAgg25
 z75:=Tryz.sizeOf25
 v75:=Tryz.zeroValue25
 t76:=Tryz.underlying26
 a76:=Tryz.isAgg26
 z76:=Tryz.sizeOf26
 v76:=Tryz.zeroValue26
 t105:=Tryz.underlying232
 a105:=Tryz.isAgg232
 z105:=Tryz.sizeOf232
 v105:=Tryz.zeroValue232
 t119:=Tryz.underlying279
 a119:=Tryz.isAgg279
 z119:=Tryz.sizeOf279
 t127:=Tryz.underlying221
 a127:=Tryz.isAgg221
 z127:=Tryz.sizeOf221
 v127:=Tryz.zeroValue221
 t138:=Tryz.underlying281
 a138:=Tryz.isAgg281
 z138:=Tryz.sizeOf281
 v138:=Tryz.zeroValue281
 t139:=Tryz.underlying282
 a139:=Tryz.isAgg282
 z139:=Tryz.sizeOf282
 v139:=Tryz.zeroValue282
 t146:=Tryz.underlying182
 a146:=Tryz.isAgg182
 z146:=Tryz.sizeOf182
 v146:=Tryz.zeroValue182
 t164:=Tryz.underlying235
 a164:=Tryz.isAgg235
 z164:=Tryz.sizeOf235
 v164:=Tryz.zeroValue235
 g1:=by kernel_rfl
 g3:=by kernel_rfl
 g4:=by kernel_rfl }
theorem Tryz.Builder_Extra_155:Builder.Extra Tryz.prog Tryz.lays155_ren:= {
 sizeBuilder:=by kernel_rfl
 liesBuilder:=by kernel_rfl
 t5:=Tryz.underlying5
 a5:=Tryz.isAgg5
 z5:=Tryz.sizeOf5
 v5:=Tryz.zeroValue5
 infoByte:=by kernel_rfl
 cellsByte:=by kernel_rfl
 sizeByte:=by kernel_rfl
 neB5:=by decide }
open Go.RowKit Go.Lib in
theorem Tryz.strings_ReplaceAll (s old new:ByteArray) (m:Int) (w:World) (hs:s.size<4294967281) (hm:w.cell? ⟨0,0,none⟩=some (.int .i64 m)) (h1:1≤old.size) (hlen:s.size+Lib.countB s old*new.size≤140737488355328):
 Calls Tryz.prog 148 #[.string s,.string old,.string new] w fun e w'=>
  e= .returned (.string ⟨(Lib.replaceAll s.data.toList old.data.toList new.data.toList).toArray⟩)∧Below w.heap.size w w':=Any.strings_ReplaceAll Tryz.lays155 Tryz.Builder_Extra_155 s old new m w hs hm h1 hlen
def Tryz.lays152_ren:Go.Shelf.Ren:=⟨fun|152=>174|137=>132|119=>206|224=>89|225=>203|217=>177|266=>207|n=>n,fun|9=>9|21=>21|3=>3|4=>4|5=>5|0=>0|46=>139|n=>n,fun|n=>n⟩
theorem Tryz.lays152:Go.Proofs.Lays.n152 Tryz.prog Tryz.lays152_ren:= {
 mixed:=by kernel_rfl
 f119:=Tryz.func206.trans (congrArg some (by kernel_rfl))
 f137:=Tryz.func132.trans (congrArg some (by kernel_rfl))
 f152:=Tryz.func174.trans (congrArg some (by kernel_rfl))
 f217:=Tryz.func177.trans (congrArg some (by kernel_rfl))
 f224:=Tryz.func89.trans (congrArg some (by kernel_rfl))
 f225:=Tryz.func203.trans (congrArg some (by kernel_rfl))
 f266:=Tryz.func207.trans (congrArg some (by kernel_rfl))
 t0:=Tryz.underlying0
 a0:=Tryz.isAgg0
 z0:=Tryz.sizeOf0
 v0:=Tryz.zeroValue0
 t3:=Tryz.underlying3
 a3:=Tryz.isAgg3
 z3:=Tryz.sizeOf3
 v3:=Tryz.zeroValue3
 t4:=Tryz.underlying4
 a4:=Tryz.isAgg4
 z4:=Tryz.sizeOf4
 v4:=Tryz.zeroValue4
 t5:=Tryz.underlying5
 a5:=Tryz.isAgg5
 z5:=Tryz.sizeOf5
 v5:=Tryz.zeroValue5
 t9:=Tryz.underlying9
 a9:=Tryz.isAgg9
 z9:=Tryz.sizeOf9
 v9:=Tryz.zeroValue9
 t21:=Tryz.underlying21
 a21:=Tryz.isAgg21
 z21:=Tryz.sizeOf21
 v21:=Tryz.zeroValue21
 t46:=Tryz.underlying139
 a46:=Tryz.isAgg139
 z46:=Tryz.sizeOf139
 v46:=Tryz.zeroValue139 }
open Go.RowKit Go.Lib in
theorem Tryz.strings_IndexRune_ascii (s:ByteArray) (r:Int) (w:World) (h0:0≤r) (h1:r<128):
 Calls Tryz.prog 174 #[.string s,.int .i32 r] w fun e w'=>e= .returned (.int .i64 (Lib.indexByte s.data.toList r.toNat.toUInt8))∧w'=w:=Any.strings_IndexRune_ascii Tryz.lays152 s r w h0 h1
def Tryz.lays226_ren:Go.Shelf.Ren:=⟨fun|226=>175|n=>n,fun|3=>3|4=>4|n=>n,fun|n=>n⟩
theorem Tryz.lays226:Go.Proofs.Lays.n226 Tryz.prog Tryz.lays226_ren:= {
 mixed:=by kernel_rfl
 f226:=Tryz.func175.trans (congrArg some (by kernel_rfl))
 t3:=Tryz.underlying3
 a3:=Tryz.isAgg3
 z3:=Tryz.sizeOf3
 v3:=Tryz.zeroValue3
 t4:=Tryz.underlying4
 a4:=Tryz.isAgg4
 z4:=Tryz.sizeOf4
 v4:=Tryz.zeroValue4 }
open Go.RowKit Go.Lib in
theorem Tryz.strings_shouldUseASCIISet (n:Int) (w:World):
 Calls Tryz.prog 175 #[.int .i64 n] w fun e w'=>e= .returned (.bool (decide (8<n)))∧w'=w:=Any.strings_shouldUseASCIISet Tryz.lays226 n w
def Tryz.lays153_ren:Go.Shelf.Ren:=⟨fun|153=>131|152=>174|226=>175|227=>143|228=>176|137=>132|119=>206|224=>89|225=>203|217=>177|266=>207|n=>n,fun|9=>9|3=>3|4=>4|5=>5|21=>21|117=>195|116=>194|0=>0|46=>139|124=>198|n=>n,fun|n=>n⟩
theorem Tryz.lays153:Go.Proofs.Lays.n153 Tryz.prog Tryz.lays153_ren:= {
 mixed:=by kernel_rfl
 f119:=Tryz.func206.trans (congrArg some (by kernel_rfl))
 f137:=Tryz.func132.trans (congrArg some (by kernel_rfl))
 f152:=Tryz.func174.trans (congrArg some (by kernel_rfl))
 f153:=Tryz.func131.trans (congrArg some (by kernel_rfl))
 f217:=Tryz.func177.trans (congrArg some (by kernel_rfl))
 f224:=Tryz.func89.trans (congrArg some (by kernel_rfl))
 f225:=Tryz.func203.trans (congrArg some (by kernel_rfl))
 f226:=Tryz.func175.trans (congrArg some (by kernel_rfl))
 f227:=Tryz.func143.trans (congrArg some (by kernel_rfl))
 f228:=Tryz.func176.trans (congrArg some (by kernel_rfl))
 f266:=Tryz.func207.trans (congrArg some (by kernel_rfl))
 t0:=Tryz.underlying0
 a0:=Tryz.isAgg0
 z0:=Tryz.sizeOf0
 v0:=Tryz.zeroValue0
 t3:=Tryz.underlying3
 a3:=Tryz.isAgg3
 z3:=Tryz.sizeOf3
 v3:=Tryz.zeroValue3
 t4:=Tryz.underlying4
 a4:=Tryz.isAgg4
 z4:=Tryz.sizeOf4
 v4:=Tryz.zeroValue4
 t5:=Tryz.underlying5
 a5:=Tryz.isAgg5
 z5:=Tryz.sizeOf5
 v5:=Tryz.zeroValue5
 t9:=Tryz.underlying9
 a9:=Tryz.isAgg9
 z9:=Tryz.sizeOf9
 v9:=Tryz.zeroValue9
 t21:=Tryz.underlying21
 a21:=Tryz.isAgg21
 z21:=Tryz.sizeOf21
 v21:=Tryz.zeroValue21
 t46:=Tryz.underlying139
 a46:=Tryz.isAgg139
 z46:=Tryz.sizeOf139
 v46:=Tryz.zeroValue139
 t116:=Tryz.underlying194
 a116:=Tryz.isAgg194
 z116:=Tryz.sizeOf194
 t117:=Tryz.underlying195
 a117:=Tryz.isAgg195
 z117:=Tryz.sizeOf195
 v117:=Tryz.zeroValue195
 t124:=Tryz.underlying198
 a124:=Tryz.isAgg198
 z124:=Tryz.sizeOf198
 v124:=Tryz.zeroValue198 }
open Go.RowKit Go.Lib in
theorem Tryz.strings_IndexAny_long (hv116: ∀ w,(zeroValue 194).run Tryz.prog w= .ok (.agg (Array.replicate 256 (.bool false))) w) (s chars:ByteArray) (w:World) (h2:2≤chars.size) (h8:8<s.size) (hs:s.size<4294967281) (hcs:chars.size<4294967281) (hascii: ∀ (j:Nat) b,chars.data.toList[j]? =some b→b.toNat<128):
 Calls Tryz.prog 131 #[.string s,.string chars] w fun e w'=>e= .returned (.int .i64 (Lib.indexAny s.data.toList chars.data.toList))∧w'=((w.alloc (.cells (Lib.setCells chars.data.toList) 194)).alloc (.cells (Lib.setCells chars.data.toList) 194)):=Any.strings_IndexAny_long Tryz.lays153 hv116 (by kernel_rfl) s chars w h2 h8 hs hcs hascii
def Tryz.lays185_ren:Go.Shelf.Ren:=⟨fun|185=>43|187=>86|115=>87|253=>88|224=>89|254=>90|255=>125|291=>126|n=>n,fun|37=>22|3=>3|4=>4|0=>0|5=>5|46=>139|9=>9|146=>182|51=>181|n=>n,fun|1=>0|n=>n⟩
theorem Tryz.lays185:Go.Proofs.Lays.n185 Tryz.prog Tryz.lays185_ren:= {
 mixed:=by kernel_rfl
 f115:=Tryz.func87.trans (congrArg some (by kernel_rfl))
 f185:=Tryz.func43.trans (congrArg some (by kernel_rfl))
 f187:=Tryz.func86.trans (congrArg some (by kernel_rfl))
 f224:=Tryz.func89.trans (congrArg some (by kernel_rfl))
 f253:=Tryz.func88.trans (congrArg some (by kernel_rfl))
 f254:=Tryz.func90.trans (congrArg some (by kernel_rfl))
 f255:=Tryz.func125.trans (congrArg some (by kernel_rfl))
 f291:=Tryz.func126.trans (congrArg some (by kernel_rfl))
 t0:=Tryz.underlying0
 a0:=Tryz.isAgg0
 z0:=Tryz.sizeOf0
 v0:=Tryz.zeroValue0
 t3:=Tryz.underlying3
 a3:=Tryz.isAgg3
 z3:=Tryz.sizeOf3
 v3:=Tryz.zeroValue3
 t4:=Tryz.underlying4
 a4:=Tryz.isAgg4
 z4:=Tryz.sizeOf4
 v4:=Tryz.zeroValue4
 t5:=Tryz.underlying5
 a5:=Tryz.isAgg5
 z5:=Tryz.sizeOf5
 v5:=Tryz.zeroValue5
 t9:=Tryz.underlying9
 a9:=Tryz.isAgg9
 z9:=Tryz.sizeOf9
 v9:=Tryz.zeroValue9
 t37:=Tryz.underlying22
 a37:=Tryz.isAgg22
 z37:=Tryz.sizeOf22
 v37:=Tryz.zeroValue22
 t46:=Tryz.underlying139
 a46:=Tryz.isAgg139
 z46:=Tryz.sizeOf139
 v46:=Tryz.zeroValue139
 t51:=Tryz.underlying181
 a51:=Tryz.isAgg181
 z51:=Tryz.sizeOf181
 v51:=Tryz.zeroValue181
 t146:=Tryz.underlying182
 a146:=Tryz.isAgg182
 z146:=Tryz.sizeOf182
 v146:=Tryz.zeroValue182
 g1:=by kernel_rfl }
open Go.Proofs Go.RowKit Go.Lib in
theorem Tryz.bytes_Index_at (a1 a2:Addr) (n c1 k c2:Nat) (xs ys:List Int) (m:Int) (w:World) (hx:xs.length=n) (hy:ys.length=k) (hr1: ∀ x ∈ xs,0≤x∧x<256) (hr2: ∀ y ∈ ys,0≤y∧y<256) (hc1: ∀ i,i<n→w.cell? (a1.add i)=some (.int .u8 (xs.getD i 0))) (hc2: ∀ i,i<k→w.cell? (a2.add i)=some (.int .u8 (ys.getD i 0))) (hcap:n≤c1) (hs:n<4294967281) (hk:k≤9223372036854775807) (hm:w.cell? ⟨0,0,none⟩=some (.int .i64 m)):
 Calls Tryz.prog 43 #[.slice (some a1) n c1,.slice (some a2) k c2] w fun e w'=>e= .returned (.int .i64 (Lib.index (Lib.bytesOf xs) (Lib.bytesOf ys)))∧ ∃ q,w'=w.drewN q:=Any.bytes_Index_at Tryz.lays185 a1 a2 n c1 k c2 xs ys m w hx hy hr1 hr2 hc1 hc2 hcap hs hk hm
open Go.Proofs Go.RowKit Go.Lib in
theorem Tryz.bytes_Index_nil (p2:Option Addr) (k c2:Nat) (w:World) (hk:k≤9223372036854775807) (h1:k=1→ ∃ b2 o2 cv,p2=some ⟨b2,o2,none⟩∧w.cell? ⟨b2,o2,none⟩=some (.int .u8 cv)):
 Calls Tryz.prog 43 #[.slice none 0 0,.slice p2 k c2] w fun e w'=>e= .returned (.int .i64 (if k=0 then 0 else -1))∧w'=w:=Any.bytes_Index_nil Tryz.lays185 p2 k c2 w hk h1
def Tryz.laysnb116_ren:Go.Shelf.Ren:=⟨fun|116=>44|115=>87|n=>n,fun|37=>22|4=>4|3=>3|9=>9|5=>5|n=>n,fun|n=>n⟩
theorem Tryz.laysnb116:Go.Proofs.Lays.nb116 Tryz.prog Tryz.laysnb116_ren:= {
 mixed:=by kernel_rfl
 f115:=Tryz.func87.trans (congrArg some (by kernel_rfl))
 f116:=Tryz.func44.trans (congrArg some (by kernel_rfl))
 t3:=Tryz.underlying3
 a3:=Tryz.isAgg3
 z3:=Tryz.sizeOf3
 v3:=Tryz.zeroValue3
 t4:=Tryz.underlying4
 a4:=Tryz.isAgg4
 z4:=Tryz.sizeOf4
 v4:=Tryz.zeroValue4
 t9:=Tryz.underlying9
 a9:=Tryz.isAgg9
 z9:=Tryz.sizeOf9
 v9:=Tryz.zeroValue9
 t37:=Tryz.underlying22
 a37:=Tryz.isAgg22
 z37:=Tryz.sizeOf22
 v37:=Tryz.zeroValue22
 t5:=Tryz.underlying5
 a5:=Tryz.isAgg5
 z5:=Tryz.sizeOf5
 v5:=Tryz.zeroValue5 }
theorem Tryz.bytes_HasPrefix_all (p1 p2:Option Addr) (n c m d:Nat) (xs ys:List Int) (w:World) (hx:xs.length=n) (hy:ys.length=m) (hnc:n≤c) (h1:Lib.BytesIn w p1 n xs) (h2:Lib.BytesIn w p2 m ys):
 Calls Tryz.prog 44 #[.slice p1 n c,.slice p2 m d] w fun e w'=>e= .returned (.bool (Lib.hasPrefix (Lib.bytesOf xs) (Lib.bytesOf ys)))∧w'=w:=Any.bytes_HasPrefix_all Tryz.laysnb116 p1 p2 n c m d xs ys w hx hy hnc h1 h2
end Go.Proofs

namespace Go.Proofs.YtgmpdjjoefkndaaGreatDoor
open Go.RowKit

structure StdW (w:World):Prop where
 max: ∃ m,w.cell? ⟨0,0,none⟩=some (.int .i64 m)
 tab:Lib.TabIs Tryz.prog w "internal/strconv.uint64pow10" .u64 Lib.pow10Tab
 syn: ∃ tp p,w.cell? ⟨2,0,none⟩=some (.iface tp p)
 rng: ∃ tp p,w.cell? ⟨3,0,none⟩=some (.iface tp p)
 size:7<w.heap.size
theorem gPow:Tryz.prog.globalNamed "internal/strconv.uint64pow10" =some 7:=by kernel_rfl
theorem StdW.below {w w':World} (h:StdW w) (hb:Below w.heap.size w w'):StdW w':=by
 obtain ⟨⟨m,hm⟩,ht,⟨a,b,hs⟩,⟨c,d,hr⟩,hz⟩:=h
 exact ⟨⟨m,(hb.cell (World.block_lt_of_cell? _ _ hm)).trans hm⟩,var?_below hb gPow hz ht,⟨a,b,(hb.cell (World.block_lt_of_cell? _ _ hs)).trans hs⟩,
  ⟨c,d,(hb.cell (World.block_lt_of_cell? _ _ hr)).trans hr⟩,Nat.lt_of_lt_of_le hz hb.size⟩
theorem below_drewN (w:World) (n:Nat):Below w.heap.size w (w.drewN n):=⟨rfl,rfl,rfl,Nat.le_refl _,fun _ _=>rfl⟩
theorem below_grow (w:World) (os:Array Obj):Below w.heap.size w (Sort.grow w os):=
 ⟨rfl,rfl,rfl,by simp [Sort.grow],fun k hk=>by simp [Sort.grow,Array.getElem?_append,hk]⟩
end Go.Proofs.YtgmpdjjoefkndaaGreatDoor

namespace Go.Proofs.YtgmpdjjoefkndaaGreatDoor.E
open Go.RowKit Go.Proofs.YtgmpdjjoefkndaaGreatDoorW.PrintWords Go.Proofs.YtgmpdjjoefkndaaGreatDoorW.PrintLast
set_option linter.unusedVariables false
set_option linter.unusedSimpArgs false
theorem addAt (b o j:Nat):(⟨b,o,none⟩:Addr).add j=⟨b,o+j,none⟩:=by unfold Addr.add;split<;>simp_all
def Itoa.f (a:Int):Option ByteArray:=if -9223372036854775808≤a∧a≤9223372036854775807 then some ⟨(Lib.itoa a).toArray⟩ else none
theorem Itoa.calls (a:Int) (r:ByteArray) (w:World) (hS_:StdW w) (h:Itoa.f a=some r):
  Calls Tryz.prog 108 #[.int .i64 a] w fun e w'=>e= .returned (.string r)∧Below w.heap.size w w':=by
 unfold Itoa.f at h
 split at h
 ·rename_i hc
  obtain rfl:=Option.some.inj h
  refine (Tryz.strconv_Itoa a hc.1 hc.2 w hS_.tab).mono ?_
  rintro e w' ⟨rfl,k,os,rfl⟩
  exact ⟨rfl,below_then (below_drewN w k) (Nat.le_refl _) (below_grow (w.drewN k) os)⟩
 ·cases h
def Cut.f (s sep:ByteArray):Option (ByteArray×ByteArray×Bool):=
 if s.size<4294967281 then some (⟨(Lib.cut s.data.toList sep.data.toList).1.toArray⟩,⟨(Lib.cut s.data.toList sep.data.toList).2.1.toArray⟩,(Lib.cut s.data.toList sep.data.toList).2.2) else none
theorem Cut.calls (s sep:ByteArray) (r1 r2:ByteArray) (r3:Bool) (w:World) (hS_:StdW w) (h:Cut.f s sep=some (r1,r2,r3)):
  Calls Tryz.prog 91 #[.string s,.string sep] w fun e w'=>e= .returned (.tuple #[.string r1,.string r2,.bool r3])∧Below w.heap.size w w':=by
 unfold Cut.f at h
 split at h
 ·rename_i hc
  simp only [Option.some.injEq,Prod.mk.injEq] at h
  obtain ⟨rfl,rfl,rfl⟩:=h
  obtain ⟨m,hm⟩:=hS_.max
  refine (Tryz.strings_Cut s sep m w hc hm).mono ?_
  rintro e w' ⟨rfl,n,rfl⟩
  exact ⟨rfl,below_drewN w n⟩
 ·cases h
def IndexByte.f (s:ByteArray) (c:Int):Option Int:=some (Lib.indexByte s.data.toList c.toNat.toUInt8)
theorem IndexByte.calls (s:ByteArray) (c:Int) (r:Int) (w:World) (hS_:StdW w) (h:IndexByte.f s c=some r):
  Calls Tryz.prog 132 #[.string s,.int .u8 c] w fun e w'=>e= .returned (.int .i64 r)∧Below w.heap.size w w':=by
 obtain rfl:=Option.some.inj h
 exact (Tryz.strings_IndexByte s c w).mono (fun e w' ⟨he,hw⟩=>⟨he,hw▸Below.refl _ _⟩)
end Go.Proofs.YtgmpdjjoefkndaaGreatDoor.E

namespace Go.Proofs.YtgmpdjjoefkndaaGreatDoor.XK
open Go.RowKit Go.Proofs.YtgmpdjjoefkndaaGreatDoorW.PrintWords Go.Proofs.YtgmpdjjoefkndaaGreatDoorW.PrintLast Go.Proofs.YtgmpdjjoefkndaaGreatDoorW.PrintMore
attribute [local go_sem] max2_int min2_int max_two min_two max_three min_three max_four min_four
set_option linter.unusedVariables false
set_option linter.unusedSimpArgs false
def errW:Option Int→Value
 |none=> .nilIface
 |some c=> .iface 0 (.int .i64 c)
theorem errW_none:errW none= .nilIface:=rfl
theorem errW_some (c:Int):errW (some c)= .iface 0 (.int .i64 c):=rfl
structure S71 where
 f0:ByteArray
 f1:ByteArray
def z71:S71:=⟨(⟨#[]⟩:ByteArray),(⟨#[]⟩:ByteArray)⟩
def k71:Kd S71:=Kd.iso (Kd.pair Kd.string Kd.string) (fun x:S71=>(x.f0,x.f1))
theorem k71_open {w:World} {x:S71} {cs:List Value} (h:k71.K w x cs):cs=[.string x.f0,.string x.f1]:=by
 obtain ⟨_,_,rfl,rfl,rfl⟩:=h
 exact rfl
theorem k71_mkM (w:World) (base:Nat) (ok:Nat→Prop) (x:S71):k71.M w base ok x [.string x.f0,.string x.f1]:=⟨[.string x.f0],[.string x.f1],rfl,rfl,rfl⟩
def rd_T71 (xs:List S71) (i:Int):S71:=xs.getD i.toNat z71
theorem at_T71 {w:World} {A:Option Addr} {n:Nat} {xs:List S71} (h:Kd.C k71 w A n xs) (i:Int) (h0:0≤i) (h1:i<n): ∃ ad,A=some ad∧w.cell? (ad.add (i.toNat*2))=some (.string (rd_T71 xs i).f0)∧w.cell? ⟨(ad.add (i.toNat*2)).block,(ad.add (i.toNat*2)).off+1,none⟩=some (.string (rd_T71 xs i).f1):=by
 obtain ⟨ad,c,e,_,hK,hc0⟩:=Kd.C_get h z71 i h0 h1
 have hc: ∀ j u,c[j]? =some u→w.cell? (ad.add (i.toNat*2+j))=some u:=hc0
 obtain rfl:=k71_open hK
 exact ⟨ad,e,hc 0 _ rfl,by rw [← add_field _ _ 1 (by omega)];exact hc 1 _ rfl⟩
theorem eqA71 (d:Nat) (w:World) (x0 y0:ByteArray) (x1 y1:ByteArray):
  (Op.equalIn (d+2) 71 (.agg #[.string x0,.string x1]) (.agg #[.string y0,.string y1])).run Tryz.prog w= .ok (x0.toList==y0.toList && (x1.toList==y1.toList)) w:=by
 refine eqA_of Tryz.underlying71 (by kernel_rfl) ?_
 refine eqf_cons (by rfl) (by go_simp;rfl) (by go_simp;rfl) (by go_simp) ?_
 exact eqf_last (by rfl) (by go_simp;rfl) (by go_simp;rfl) (by go_simp)
end Go.Proofs.YtgmpdjjoefkndaaGreatDoor.XK

namespace Go.Proofs.YtgmpdjjoefkndaaGreatDoor.XK
open Go.RowKit Go.Proofs.YtgmpdjjoefkndaaGreatDoorW.PrintWords Go.Proofs.YtgmpdjjoefkndaaGreatDoorW.PrintLast Go.Proofs.YtgmpdjjoefkndaaGreatDoorW.PrintMore
attribute [local go_sem] max2_int min2_int max_two min_two max_three min_three max_four min_four
set_option linter.unusedVariables false
set_option linter.unusedSimpArgs false
attribute [local go_sem high] eqA71
def sallyportbase_SameFields.l0:Nat→List (S71)→List (S71)→Int→Option (Bool)
 |0,_,_,_=>none
 |k+1,x0,x1,x5=>if x5<(x0.length:Int) then (if 0≤x5 then (if x5<(x1.length:Int) then (if (!((((rd_T71 x0 x5).f0).toList)==(((rd_T71 x1 x5).f0).toList))||(!((((rd_T71 x0 x5).f1).toList)==(((rd_T71 x1 x5).f1).toList))))=true then (some false) else (sallyportbase_SameFields.l0 k x0 x1 (wrap64 (x5+1)))) else (none)) else (none)) else (some true)
def sallyportbase_SameFields.f (k:Nat) (l0:List (S71)) (l1:List (S71)):Option (Bool):=if (l0.length:Int)=(l1.length:Int) then (sallyportbase_SameFields.l0 k l0 l1 0) else (some false)
set_option maxHeartbeats 8000000 in
set_option maxRecDepth 100000 in
theorem sallyportbase_SameFields.calls (k:Nat) (A0:Option Addr) (c0:Nat) (l0:List (S71)) (A1:Option Addr) (c1:Nat) (l1:List (S71)) (r:Bool) (w:World) (hr0:Kd.C k71 w A0 l0.length l0) (hc0:l0.length≤c0) (hr1:Kd.C k71 w A1 l1.length l1) (hc1:l1.length≤c1) (h:sallyportbase_SameFields.f k l0 l1=some r):
  Calls Tryz.prog 30 #[.slice A0 l0.length c0,.slice A1 l1.length c1] w fun e w'=>e= .returned (.bool r)∧Drawn0 w w':=by
 have hu71:=Tryz.underlying71
 have HR0:=Aside0.mk hr0
 have HC0:=Aside0.mk hc0
 clear hr0 hc0
 have HR1:=Aside0.mk hr1
 have HC1:=Aside0.mk hc1
 clear hr1 hc1
 have H:(if (l0.length:Int)=(l1.length:Int) then (sallyportbase_SameFields.l0 k l0 l1 0) else (some false))=some r:=h
 clear h
 by_cases c3:(l0.length:Int)=(l1.length:Int)
 ·rw [if_pos c3] at H
  have c3b0:=beq_iff_eq.mpr c3
  have c3b1:=bne_eq_false_iff_eq.mpr c3
  have c3b2:(l0.length==l1.length)=true:=by first|simpa using c3|(simp at c3 ⊢;omega)
  clear c3
  have H':=Aside0.mk H
  clear H
  go_enter Tryz.func30,Tryz.ntmps30
  go_wp2
  repeat (go_quiet (fail);try go_wp2)
  go_loopg [5] k (fun kq v5 w'=> ∃ (x5_1:Int),v5= .int .i64 x5_1∧Aside0 (sallyportbase_SameFields.l0 kq l0 l1 x5_1=some r)∧Aside0 (kq≤k)∧Drawn0 w w')
  case atStart=>exact ⟨(0),rfl,H',⟨Nat.le_refl _⟩,by repeat (first|exact Drawn0.refl _|apply Drawn0.step)⟩
  case round=>
   clear H'
   try clear c1
   try clear p2
   try clear c3
   try clear c3b0
   try clear c3b1
   try clear c3b2
   obtain ⟨x5_1,rfl,HA,HK1,⟨m1,rfl⟩⟩:=hrel
   cases gk with
   |zero=>exact absurd HA.out (by simp [sallyportbase_SameFields.l0])
   |succ k1=>
    have H:=HA.out
    clear HA
    simp only [sallyportbase_SameFields.l0] at H
    by_cases c4:x5_1<(l0.length:Int)
    ·rw [if_pos c4] at H
     have c4b0:=decide_eq_true c4
     clear c4
     by_cases c5:0≤x5_1
     ·rw [if_pos c5] at H
      have c5b0:=decide_eq_true c5
      clear c5
      by_cases c6:x5_1<(l1.length:Int)
      ·rw [if_pos c6] at H
       have c6b0:=decide_eq_true c6
       clear c6
       by_cases c7:(!((((rd_T71 l0 x5_1).f0).toList)==(((rd_T71 l1 x5_1).f0).toList))||(!((((rd_T71 l0 x5_1).f1).toList)==(((rd_T71 l1 x5_1).f1).toList))))=true
       ·rw [if_pos c7] at H
        have c7b0:(!((((rd_T71 l0 x5_1).f0).toList)==(((rd_T71 l1 x5_1).f0).toList))||(!((((rd_T71 l0 x5_1).f1).toList)==(((rd_T71 l1 x5_1).f1).toList))))=true:=c7
        clear c7
        obtain rfl:=Option.some.inj H
        have p101:0≤(x5_1:Int):=of_decide_eq_true (by assumption)
        have q101:x5_1<(l0.length:Int):=of_decide_eq_true (by assumption)
        obtain ⟨ad101,e101,hx101_0,hx101_1⟩:=at_T71 HR0.out x5_1 p101 q101
        cases e101
        replace p101:=eq_true p101
        replace q101:=eq_true q101
        have p102:0≤(x5_1:Int):=of_decide_eq_true (by assumption)
        have q102:x5_1<(l1.length:Int):=of_decide_eq_true (by assumption)
        obtain ⟨ad102,e102,hx102_0,hx102_1⟩:=at_T71 HR1.out x5_1 p102 q102
        cases e102
        replace p102:=eq_true p102
        replace q102:=eq_true q102
        go_wp2
        repeat (go_quiet (fail);try go_wp2)
        go_ret
        exact ⟨by first|rfl|(simp;done)|(simp [*];done),by repeat (first|exact Drawn0.refl _|apply Drawn0.step)⟩
       ·rw [if_neg c7] at H
        have c7b0:(!((((rd_T71 l0 x5_1).f0).toList)==(((rd_T71 l1 x5_1).f0).toList))||(!((((rd_T71 l0 x5_1).f1).toList)==(((rd_T71 l1 x5_1).f1).toList))))=false:=by simpa using c7
        clear c7
        have H':=Aside0.mk H
        clear H
        have p101:0≤(x5_1:Int):=of_decide_eq_true (by assumption)
        have q101:x5_1<(l0.length:Int):=of_decide_eq_true (by assumption)
        obtain ⟨ad101,e101,hx101_0,hx101_1⟩:=at_T71 HR0.out x5_1 p101 q101
        cases e101
        replace p101:=eq_true p101
        replace q101:=eq_true q101
        have p102:0≤(x5_1:Int):=of_decide_eq_true (by assumption)
        have q102:x5_1<(l1.length:Int):=of_decide_eq_true (by assumption)
        obtain ⟨ad102,e102,hx102_0,hx102_1⟩:=at_T71 HR1.out x5_1 p102 q102
        cases e102
        replace p102:=eq_true p102
        replace q102:=eq_true q102
        go_wp2
        repeat (go_quiet (fail);try go_wp2)
        go_roundg k1
        case measure=>have:=HK1.out;omega
        case rel=>exact ⟨(wrap64 (x5_1+1)),rfl,H',⟨by have:=HK1.out;omega⟩,by repeat (first|exact Drawn0.refl _|apply Drawn0.step)⟩
      ·rw [if_neg c6] at H
       exact absurd H (by simp)
     ·rw [if_neg c5] at H
      exact absurd H (by simp)
    ·rw [if_neg c4] at H
     have c4b0:=decide_eq_false c4
     clear c4
     obtain rfl:=Option.some.inj H
     go_wp2
     repeat (go_quiet (fail);try go_wp2)
     go_ret
     exact ⟨by first|rfl|(simp;done)|(simp [*];done),by repeat (first|exact Drawn0.refl _|apply Drawn0.step)⟩
 ·rw [if_neg c3] at H
  have c3b0:=beq_eq_false_iff_ne.mpr c3
  have c3b1:=bne_iff_ne.mpr c3
  have c3b2:(l0.length==l1.length)=false:=by first|simpa using c3|(simp at c3 ⊢;omega)
  obtain rfl:=Option.some.inj H
  go_enter Tryz.func30,Tryz.ntmps30
  go_wp2
  repeat (go_quiet (fail);try go_wp2)
  go_ret
  exact ⟨by first|rfl|(simp;done)|(simp [*];done),by repeat (first|exact Drawn0.refl _|apply Drawn0.step)⟩
end Go.Proofs.YtgmpdjjoefkndaaGreatDoor.XK

namespace Go.Proofs.YtgmpdjjoefkndaaGreatDoor.XK
open Go.RowKit Go.Proofs.YtgmpdjjoefkndaaGreatDoorW.PrintWords Go.Proofs.YtgmpdjjoefkndaaGreatDoorW.PrintLast Go.Proofs.YtgmpdjjoefkndaaGreatDoorW.PrintMore
attribute [local go_sem] max2_int min2_int max_two min_two max_three min_three max_four min_four
set_option linter.unusedVariables false
set_option linter.unusedSimpArgs false
end Go.Proofs.YtgmpdjjoefkndaaGreatDoor.XK

namespace Go.Proofs.YtgmpdjjoefkndaaGreatDoor.XA
open Go.Proofs.YtgmpdjjoefkndaaGreatDoor.XK
open Go.RowKit Go.Proofs.YtgmpdjjoefkndaaGreatDoorW.PrintWords Go.Proofs.YtgmpdjjoefkndaaGreatDoorW.PrintLast Go.Proofs.YtgmpdjjoefkndaaGreatDoorW.PrintMore
attribute [local go_sem] max2_int min2_int max_two min_two max_three min_three max_four min_four
set_option linter.unusedVariables false
set_option linter.unusedSimpArgs false
end Go.Proofs.YtgmpdjjoefkndaaGreatDoor.XA

namespace Go.Proofs.YtgmpdjjoefkndaaGreatDoor.XA
open Go.Proofs.YtgmpdjjoefkndaaGreatDoor.XK Go.RowKit Go.Proofs.YtgmpdjjoefkndaaGreatDoorW.PrintWords Go.Proofs.YtgmpdjjoefkndaaGreatDoorW.PrintLast Go.Proofs.YtgmpdjjoefkndaaGreatDoorW.PrintMore
attribute [local go_sem] max2_int min2_int max_two min_two max_three min_three max_four min_four
set_option linter.unusedVariables false
set_option linter.unusedSimpArgs false
def head_sign.f (a0:Int):Option (Bool):=if a0≥97 then (if a0≤122 then (some true) else (if a0≥65 then (if a0≤90 then (some true) else (if a0≥48 then (if a0≤57 then (some true) else (if a0>32 then ((E.IndexByte.f (⟨#[33,35,36,37,38,39,42,43,45,46,94,95,96,124,126]⟩:ByteArray) a0).bind fun t101=>(some (decide (t101≥0)))) else (some false))) else (if a0>32 then ((E.IndexByte.f (⟨#[33,35,36,37,38,39,42,43,45,46,94,95,96,124,126]⟩:ByteArray) a0).bind fun t102=>(some (decide (t102≥0)))) else (some false)))) else (if a0≥48 then (if a0≤57 then (some true) else (if a0>32 then ((E.IndexByte.f (⟨#[33,35,36,37,38,39,42,43,45,46,94,95,96,124,126]⟩:ByteArray) a0).bind fun t103=>(some (decide (t103≥0)))) else (some false))) else (if a0>32 then ((E.IndexByte.f (⟨#[33,35,36,37,38,39,42,43,45,46,94,95,96,124,126]⟩:ByteArray) a0).bind fun t104=>(some (decide (t104≥0)))) else (some false))))) else (if a0≥65 then (if a0≤90 then (some true) else (if a0≥48 then (if a0≤57 then (some true) else (if a0>32 then ((E.IndexByte.f (⟨#[33,35,36,37,38,39,42,43,45,46,94,95,96,124,126]⟩:ByteArray) a0).bind fun t105=>(some (decide (t105≥0)))) else (some false))) else (if a0>32 then ((E.IndexByte.f (⟨#[33,35,36,37,38,39,42,43,45,46,94,95,96,124,126]⟩:ByteArray) a0).bind fun t106=>(some (decide (t106≥0)))) else (some false)))) else (if a0≥48 then (if a0≤57 then (some true) else (if a0>32 then ((E.IndexByte.f (⟨#[33,35,36,37,38,39,42,43,45,46,94,95,96,124,126]⟩:ByteArray) a0).bind fun t107=>(some (decide (t107≥0)))) else (some false))) else (if a0>32 then ((E.IndexByte.f (⟨#[33,35,36,37,38,39,42,43,45,46,94,95,96,124,126]⟩:ByteArray) a0).bind fun t108=>(some (decide (t108≥0)))) else (some false))))
set_option maxHeartbeats 8000000 in
set_option maxRecDepth 100000 in
theorem head_sign.calls (a0:Int) (r:Bool) (w:World) (hS_:StdW w) (h:head_sign.f a0=some r):
  Calls Tryz.prog 94 #[.int .u8 a0] w fun e w'=>e= .returned (.bool r)∧Below w.heap.size w w':=by
 have HS_:=Aside0.mk hS_
 clear hS_
 have HB:=Aside0.mk (Below.refl w.heap.size w)
 have H:(if a0≥97 then (if a0≤122 then (some true) else (if a0≥65 then (if a0≤90 then (some true) else (if a0≥48 then (if a0≤57 then (some true) else (if a0>32 then ((E.IndexByte.f (⟨#[33,35,36,37,38,39,42,43,45,46,94,95,96,124,126]⟩:ByteArray) a0).bind fun t101=>(some (decide (t101≥0)))) else (some false))) else (if a0>32 then ((E.IndexByte.f (⟨#[33,35,36,37,38,39,42,43,45,46,94,95,96,124,126]⟩:ByteArray) a0).bind fun t102=>(some (decide (t102≥0)))) else (some false)))) else (if a0≥48 then (if a0≤57 then (some true) else (if a0>32 then ((E.IndexByte.f (⟨#[33,35,36,37,38,39,42,43,45,46,94,95,96,124,126]⟩:ByteArray) a0).bind fun t103=>(some (decide (t103≥0)))) else (some false))) else (if a0>32 then ((E.IndexByte.f (⟨#[33,35,36,37,38,39,42,43,45,46,94,95,96,124,126]⟩:ByteArray) a0).bind fun t104=>(some (decide (t104≥0)))) else (some false))))) else (if a0≥65 then (if a0≤90 then (some true) else (if a0≥48 then (if a0≤57 then (some true) else (if a0>32 then ((E.IndexByte.f (⟨#[33,35,36,37,38,39,42,43,45,46,94,95,96,124,126]⟩:ByteArray) a0).bind fun t105=>(some (decide (t105≥0)))) else (some false))) else (if a0>32 then ((E.IndexByte.f (⟨#[33,35,36,37,38,39,42,43,45,46,94,95,96,124,126]⟩:ByteArray) a0).bind fun t106=>(some (decide (t106≥0)))) else (some false)))) else (if a0≥48 then (if a0≤57 then (some true) else (if a0>32 then ((E.IndexByte.f (⟨#[33,35,36,37,38,39,42,43,45,46,94,95,96,124,126]⟩:ByteArray) a0).bind fun t107=>(some (decide (t107≥0)))) else (some false))) else (if a0>32 then ((E.IndexByte.f (⟨#[33,35,36,37,38,39,42,43,45,46,94,95,96,124,126]⟩:ByteArray) a0).bind fun t108=>(some (decide (t108≥0)))) else (some false)))))=some r:=h
 clear h
 by_cases c2:a0≥97
 ·rw [if_pos c2] at H
  have c2b0:=decide_eq_true c2
  clear c2
  by_cases c3:a0≤122
  ·rw [if_pos c3] at H
   have c3b0:=decide_eq_true c3
   clear c3
   obtain rfl:=Option.some.inj H
   go_enter Tryz.func94,Tryz.ntmps94
   go_wp2
   go_ret
   exact ⟨rfl,by with_reducible exact HB.out⟩
  ·rw [if_neg c3] at H
   have c3b0:=decide_eq_false c3
   clear c3
   by_cases c4:a0≥65
   ·rw [if_pos c4] at H
    have c4b0:=decide_eq_true c4
    clear c4
    by_cases c5:a0≤90
    ·rw [if_pos c5] at H
     have c5b0:=decide_eq_true c5
     clear c5
     obtain rfl:=Option.some.inj H
     go_enter Tryz.func94,Tryz.ntmps94
     go_wp2
     go_ret
     exact ⟨rfl,by with_reducible exact HB.out⟩
    ·rw [if_neg c5] at H
     have c5b0:=decide_eq_false c5
     clear c5
     by_cases c6:a0≥48
     ·rw [if_pos c6] at H
      have c6b0:=decide_eq_true c6
      clear c6
      by_cases c7:a0≤57
      ·rw [if_pos c7] at H
       have c7b0:=decide_eq_true c7
       clear c7
       obtain rfl:=Option.some.inj H
       go_enter Tryz.func94,Tryz.ntmps94
       go_wp2
       go_ret
       exact ⟨rfl,by with_reducible exact HB.out⟩
      ·rw [if_neg c7] at H
       have c7b0:=decide_eq_false c7
       clear c7
       by_cases c8:a0>32
       ·rw [if_pos c8] at H
        have c8b0:=decide_eq_true c8
        clear c8
        replace H:=Option.bind_eq_some_iff.mp H
        obtain ⟨t101,A90,H⟩:=H
        have A9:=Aside0.mk A90
        clear A90
        obtain rfl:=Option.some.inj H
        go_enter Tryz.func94,Tryz.ntmps94
        go_wp2_with (first|(go_at_call 132;(with_reducible refine (E.IndexByte.calls (⟨#[33,35,36,37,38,39,42,43,45,46,94,95,96,124,126]⟩:ByteArray) a0 t101 _ ?side1 A9.out).mono ?_);(case side1=>exact StdW.below HS_.out (by repeat (with_reducible first|exact HB.out|apply below_alloc|apply pw_below_drewN|apply below_drew1)));rintro e w10 ⟨rfl,hb⟩;replace HB:=Aside0.mk (below_step (by repeat (with_reducible first|exact HB.out|apply below_alloc|apply pw_below_drewN|apply below_drew1)) hb);clear hb))
        go_ret
        exact ⟨rfl,by with_reducible exact HB.out⟩
       ·rw [if_neg c8] at H
        have c8b0:=decide_eq_false c8
        clear c8
        obtain rfl:=Option.some.inj H
        go_enter Tryz.func94,Tryz.ntmps94
        go_wp2
        go_ret
        exact ⟨rfl,by with_reducible exact HB.out⟩
     ·rw [if_neg c6] at H
      have c6b0:=decide_eq_false c6
      clear c6
      by_cases c11:a0>32
      ·rw [if_pos c11] at H
       have c11b0:=decide_eq_true c11
       clear c11
       replace H:=Option.bind_eq_some_iff.mp H
       obtain ⟨t102,A120,H⟩:=H
       have A12:=Aside0.mk A120
       clear A120
       obtain rfl:=Option.some.inj H
       go_enter Tryz.func94,Tryz.ntmps94
       go_wp2_with (first|(go_at_call 132;(with_reducible refine (E.IndexByte.calls (⟨#[33,35,36,37,38,39,42,43,45,46,94,95,96,124,126]⟩:ByteArray) a0 t102 _ ?side1 A12.out).mono ?_);(case side1=>exact StdW.below HS_.out (by repeat (with_reducible first|exact HB.out|apply below_alloc|apply pw_below_drewN|apply below_drew1)));rintro e w13 ⟨rfl,hb⟩;replace HB:=Aside0.mk (below_step (by repeat (with_reducible first|exact HB.out|apply below_alloc|apply pw_below_drewN|apply below_drew1)) hb);clear hb))
       go_ret
       exact ⟨rfl,by with_reducible exact HB.out⟩
      ·rw [if_neg c11] at H
       have c11b0:=decide_eq_false c11
       clear c11
       obtain rfl:=Option.some.inj H
       go_enter Tryz.func94,Tryz.ntmps94
       go_wp2
       go_ret
       exact ⟨rfl,by with_reducible exact HB.out⟩
   ·rw [if_neg c4] at H
    have c4b0:=decide_eq_false c4
    clear c4
    by_cases c14:a0≥48
    ·rw [if_pos c14] at H
     have c14b0:=decide_eq_true c14
     clear c14
     by_cases c15:a0≤57
     ·rw [if_pos c15] at H
      have c15b0:=decide_eq_true c15
      clear c15
      obtain rfl:=Option.some.inj H
      go_enter Tryz.func94,Tryz.ntmps94
      go_wp2
      go_ret
      exact ⟨rfl,by with_reducible exact HB.out⟩
     ·rw [if_neg c15] at H
      have c15b0:=decide_eq_false c15
      clear c15
      by_cases c16:a0>32
      ·rw [if_pos c16] at H
       have c16b0:=decide_eq_true c16
       clear c16
       replace H:=Option.bind_eq_some_iff.mp H
       obtain ⟨t103,A170,H⟩:=H
       have A17:=Aside0.mk A170
       clear A170
       obtain rfl:=Option.some.inj H
       go_enter Tryz.func94,Tryz.ntmps94
       go_wp2_with (first|(go_at_call 132;(with_reducible refine (E.IndexByte.calls (⟨#[33,35,36,37,38,39,42,43,45,46,94,95,96,124,126]⟩:ByteArray) a0 t103 _ ?side1 A17.out).mono ?_);(case side1=>exact StdW.below HS_.out (by repeat (with_reducible first|exact HB.out|apply below_alloc|apply pw_below_drewN|apply below_drew1)));rintro e w18 ⟨rfl,hb⟩;replace HB:=Aside0.mk (below_step (by repeat (with_reducible first|exact HB.out|apply below_alloc|apply pw_below_drewN|apply below_drew1)) hb);clear hb))
       go_ret
       exact ⟨rfl,by with_reducible exact HB.out⟩
      ·rw [if_neg c16] at H
       have c16b0:=decide_eq_false c16
       clear c16
       obtain rfl:=Option.some.inj H
       go_enter Tryz.func94,Tryz.ntmps94
       go_wp2
       go_ret
       exact ⟨rfl,by with_reducible exact HB.out⟩
    ·rw [if_neg c14] at H
     have c14b0:=decide_eq_false c14
     clear c14
     by_cases c19:a0>32
     ·rw [if_pos c19] at H
      have c19b0:=decide_eq_true c19
      clear c19
      replace H:=Option.bind_eq_some_iff.mp H
      obtain ⟨t104,A200,H⟩:=H
      have A20:=Aside0.mk A200
      clear A200
      obtain rfl:=Option.some.inj H
      go_enter Tryz.func94,Tryz.ntmps94
      go_wp2_with (first|(go_at_call 132;(with_reducible refine (E.IndexByte.calls (⟨#[33,35,36,37,38,39,42,43,45,46,94,95,96,124,126]⟩:ByteArray) a0 t104 _ ?side1 A20.out).mono ?_);(case side1=>exact StdW.below HS_.out (by repeat (with_reducible first|exact HB.out|apply below_alloc|apply pw_below_drewN|apply below_drew1)));rintro e w21 ⟨rfl,hb⟩;replace HB:=Aside0.mk (below_step (by repeat (with_reducible first|exact HB.out|apply below_alloc|apply pw_below_drewN|apply below_drew1)) hb);clear hb))
      go_ret
      exact ⟨rfl,by with_reducible exact HB.out⟩
     ·rw [if_neg c19] at H
      have c19b0:=decide_eq_false c19
      clear c19
      obtain rfl:=Option.some.inj H
      go_enter Tryz.func94,Tryz.ntmps94
      go_wp2
      go_ret
      exact ⟨rfl,by with_reducible exact HB.out⟩
 ·rw [if_neg c2] at H
  have c2b0:=decide_eq_false c2
  clear c2
  by_cases c22:a0≥65
  ·rw [if_pos c22] at H
   have c22b0:=decide_eq_true c22
   clear c22
   by_cases c23:a0≤90
   ·rw [if_pos c23] at H
    have c23b0:=decide_eq_true c23
    clear c23
    obtain rfl:=Option.some.inj H
    go_enter Tryz.func94,Tryz.ntmps94
    go_wp2
    go_ret
    exact ⟨rfl,by with_reducible exact HB.out⟩
   ·rw [if_neg c23] at H
    have c23b0:=decide_eq_false c23
    clear c23
    by_cases c24:a0≥48
    ·rw [if_pos c24] at H
     have c24b0:=decide_eq_true c24
     clear c24
     by_cases c25:a0≤57
     ·rw [if_pos c25] at H
      have c25b0:=decide_eq_true c25
      clear c25
      obtain rfl:=Option.some.inj H
      go_enter Tryz.func94,Tryz.ntmps94
      go_wp2
      go_ret
      exact ⟨rfl,by with_reducible exact HB.out⟩
     ·rw [if_neg c25] at H
      have c25b0:=decide_eq_false c25
      clear c25
      by_cases c26:a0>32
      ·rw [if_pos c26] at H
       have c26b0:=decide_eq_true c26
       clear c26
       replace H:=Option.bind_eq_some_iff.mp H
       obtain ⟨t105,A270,H⟩:=H
       have A27:=Aside0.mk A270
       clear A270
       obtain rfl:=Option.some.inj H
       go_enter Tryz.func94,Tryz.ntmps94
       go_wp2_with (first|(go_at_call 132;(with_reducible refine (E.IndexByte.calls (⟨#[33,35,36,37,38,39,42,43,45,46,94,95,96,124,126]⟩:ByteArray) a0 t105 _ ?side1 A27.out).mono ?_);(case side1=>exact StdW.below HS_.out (by repeat (with_reducible first|exact HB.out|apply below_alloc|apply pw_below_drewN|apply below_drew1)));rintro e w28 ⟨rfl,hb⟩;replace HB:=Aside0.mk (below_step (by repeat (with_reducible first|exact HB.out|apply below_alloc|apply pw_below_drewN|apply below_drew1)) hb);clear hb))
       go_ret
       exact ⟨rfl,by with_reducible exact HB.out⟩
      ·rw [if_neg c26] at H
       have c26b0:=decide_eq_false c26
       clear c26
       obtain rfl:=Option.some.inj H
       go_enter Tryz.func94,Tryz.ntmps94
       go_wp2
       go_ret
       exact ⟨rfl,by with_reducible exact HB.out⟩
    ·rw [if_neg c24] at H
     have c24b0:=decide_eq_false c24
     clear c24
     by_cases c29:a0>32
     ·rw [if_pos c29] at H
      have c29b0:=decide_eq_true c29
      clear c29
      replace H:=Option.bind_eq_some_iff.mp H
      obtain ⟨t106,A300,H⟩:=H
      have A30:=Aside0.mk A300
      clear A300
      obtain rfl:=Option.some.inj H
      go_enter Tryz.func94,Tryz.ntmps94
      go_wp2_with (first|(go_at_call 132;(with_reducible refine (E.IndexByte.calls (⟨#[33,35,36,37,38,39,42,43,45,46,94,95,96,124,126]⟩:ByteArray) a0 t106 _ ?side1 A30.out).mono ?_);(case side1=>exact StdW.below HS_.out (by repeat (with_reducible first|exact HB.out|apply below_alloc|apply pw_below_drewN|apply below_drew1)));rintro e w31 ⟨rfl,hb⟩;replace HB:=Aside0.mk (below_step (by repeat (with_reducible first|exact HB.out|apply below_alloc|apply pw_below_drewN|apply below_drew1)) hb);clear hb))
      go_ret
      exact ⟨rfl,by with_reducible exact HB.out⟩
     ·rw [if_neg c29] at H
      have c29b0:=decide_eq_false c29
      clear c29
      obtain rfl:=Option.some.inj H
      go_enter Tryz.func94,Tryz.ntmps94
      go_wp2
      go_ret
      exact ⟨rfl,by with_reducible exact HB.out⟩
  ·rw [if_neg c22] at H
   have c22b0:=decide_eq_false c22
   clear c22
   by_cases c32:a0≥48
   ·rw [if_pos c32] at H
    have c32b0:=decide_eq_true c32
    clear c32
    by_cases c33:a0≤57
    ·rw [if_pos c33] at H
     have c33b0:=decide_eq_true c33
     clear c33
     obtain rfl:=Option.some.inj H
     go_enter Tryz.func94,Tryz.ntmps94
     go_wp2
     go_ret
     exact ⟨rfl,by with_reducible exact HB.out⟩
    ·rw [if_neg c33] at H
     have c33b0:=decide_eq_false c33
     clear c33
     by_cases c34:a0>32
     ·rw [if_pos c34] at H
      have c34b0:=decide_eq_true c34
      clear c34
      replace H:=Option.bind_eq_some_iff.mp H
      obtain ⟨t107,A350,H⟩:=H
      have A35:=Aside0.mk A350
      clear A350
      obtain rfl:=Option.some.inj H
      go_enter Tryz.func94,Tryz.ntmps94
      go_wp2_with (first|(go_at_call 132;(with_reducible refine (E.IndexByte.calls (⟨#[33,35,36,37,38,39,42,43,45,46,94,95,96,124,126]⟩:ByteArray) a0 t107 _ ?side1 A35.out).mono ?_);(case side1=>exact StdW.below HS_.out (by repeat (with_reducible first|exact HB.out|apply below_alloc|apply pw_below_drewN|apply below_drew1)));rintro e w36 ⟨rfl,hb⟩;replace HB:=Aside0.mk (below_step (by repeat (with_reducible first|exact HB.out|apply below_alloc|apply pw_below_drewN|apply below_drew1)) hb);clear hb))
      go_ret
      exact ⟨rfl,by with_reducible exact HB.out⟩
     ·rw [if_neg c34] at H
      have c34b0:=decide_eq_false c34
      clear c34
      obtain rfl:=Option.some.inj H
      go_enter Tryz.func94,Tryz.ntmps94
      go_wp2
      go_ret
      exact ⟨rfl,by with_reducible exact HB.out⟩
   ·rw [if_neg c32] at H
    have c32b0:=decide_eq_false c32
    clear c32
    by_cases c37:a0>32
    ·rw [if_pos c37] at H
     have c37b0:=decide_eq_true c37
     clear c37
     replace H:=Option.bind_eq_some_iff.mp H
     obtain ⟨t108,A380,H⟩:=H
     have A38:=Aside0.mk A380
     clear A380
     obtain rfl:=Option.some.inj H
     go_enter Tryz.func94,Tryz.ntmps94
     go_wp2_with (first|(go_at_call 132;(with_reducible refine (E.IndexByte.calls (⟨#[33,35,36,37,38,39,42,43,45,46,94,95,96,124,126]⟩:ByteArray) a0 t108 _ ?side1 A38.out).mono ?_);(case side1=>exact StdW.below HS_.out (by repeat (with_reducible first|exact HB.out|apply below_alloc|apply pw_below_drewN|apply below_drew1)));rintro e w39 ⟨rfl,hb⟩;replace HB:=Aside0.mk (below_step (by repeat (with_reducible first|exact HB.out|apply below_alloc|apply pw_below_drewN|apply below_drew1)) hb);clear hb))
     go_ret
     exact ⟨rfl,by with_reducible exact HB.out⟩
    ·rw [if_neg c37] at H
     have c37b0:=decide_eq_false c37
     clear c37
     obtain rfl:=Option.some.inj H
     go_enter Tryz.func94,Tryz.ntmps94
     go_wp2
     go_ret
     exact ⟨rfl,by with_reducible exact HB.out⟩
def head_Token.l0:Nat→ByteArray→Int→Int→Option (Bool)
 |0,_,_,_=>none
 |k+1,x0,x5,x6=>if x6<x5 then (if 0≤x6 then (if x6<(x0.size:Int) then ((head_sign.f (bt x0 x6)).bind fun t109=>(if t109=true then (head_Token.l0 k x0 x5 (wrap64 (x6+1))) else (some false))) else (none)) else (none)) else (if x0.toList=([]:List UInt8) then (some false) else (some (decide ((x0.size:Int)≤64))))
def head_Token.f (k:Nat) (a0:ByteArray):Option (Bool):=head_Token.l0 k a0 (a0.size:Int) 0
set_option maxHeartbeats 8000000 in
set_option maxRecDepth 100000 in
theorem head_Token.calls (k:Nat) (a0:ByteArray) (r:Bool) (w:World) (hS_:StdW w) (h:head_Token.f k a0=some r):
  Calls Tryz.prog 53 #[.string a0] w fun e w'=>e= .returned (.bool r)∧Below w.heap.size w w':=by
 have HS_:=Aside0.mk hS_
 clear hS_
 have HB:=Aside0.mk (Below.refl w.heap.size w)
 have H:(head_Token.l0 k a0 (a0.size:Int) 0)=some r:=h
 clear h
 have H':=Aside0.mk H
 clear H
 go_enter Tryz.func53,Tryz.ntmps53
 go_wp2
 go_loopg [6] k (fun kq v6 w'=> ∃ (x6_1:Int),v6= .int .i64 x6_1∧Aside0 (head_Token.l0 kq a0 (a0.size:Int) x6_1=some r)∧Aside0 (kq≤k)∧Aside0 (Below w.heap.size w w'))
 case atStart=>exact ⟨(0),rfl,H',⟨Nat.le_refl _⟩,⟨by with_reducible exact HB.out⟩⟩
 case round=>
  clear H'
  obtain ⟨x6_1,rfl,HA,HK1,HB⟩:=hrel
  cases gk with
  |zero=>exact absurd HA.out (by simp [head_Token.l0])
  |succ k1=>
   have H:=HA.out
   clear HA
   simp only [head_Token.l0] at H
   by_cases c2:x6_1<(a0.size:Int)
   ·rw [if_pos c2] at H
    have c2b0:=decide_eq_true c2
    clear c2
    by_cases c3:0≤x6_1
    ·rw [if_pos c3] at H
     have c3b0:=decide_eq_true c3
     clear c3
     by_cases c4:x6_1<(a0.size:Int)
     ·rw [if_pos c4] at H
      have c4b0:=decide_eq_true c4
      clear c4
      replace H:=Option.bind_eq_some_iff.mp H
      obtain ⟨t109,A60,H⟩:=H
      have A6:=Aside0.mk A60
      clear A60
      by_cases c7:t109=true
      ·subst c7
       have H1:(head_Token.l0 k1 a0 (a0.size:Int) (wrap64 (x6_1+1)))=some r:=by rw [if_pos rfl] at H;exact H
       clear H
       have H:=H1
       clear H1
       have H':=Aside0.mk H
       clear H
       have p5:0≤(x6_1:Int):=of_decide_eq_true (by assumption)
       have q5:x6_1<(a0.size:Int):=of_decide_eq_true (by assumption)
       have hx5:=bt_at a0 x6_1
       replace p5:=eq_true p5
       replace q5:=eq_true q5
       go_wp2_with (first|(go_at_call 94;(with_reducible refine (head_sign.calls (bt a0 x6_1) true _ ?side1 A6.out).mono ?_);(case side1=>exact StdW.below HS_.out (by repeat (with_reducible first|exact HB.out|apply below_alloc|apply pw_below_drewN|apply below_drew1)));rintro e w8 ⟨rfl,hb⟩;replace HB:=Aside0.mk (below_step (by repeat (with_reducible first|exact HB.out|apply below_alloc|apply pw_below_drewN|apply below_drew1)) hb);clear hb))
       go_roundg k1
       case measure=>have:=HK1.out;omega
       case rel=>exact ⟨(wrap64 (x6_1+1)),rfl,H',⟨by have:=HK1.out;omega⟩,⟨by with_reducible exact HB.out⟩⟩
      ·replace c7:=Bool.eq_false_iff.mpr c7
       subst c7
       have H1:(some false)=some r:=by rw [if_neg (show ¬ (false=true) by decide)] at H;exact H
       clear H
       have H:=H1
       clear H1
       obtain rfl:=Option.some.inj H
       have p5:0≤(x6_1:Int):=of_decide_eq_true (by assumption)
       have q5:x6_1<(a0.size:Int):=of_decide_eq_true (by assumption)
       have hx5:=bt_at a0 x6_1
       replace p5:=eq_true p5
       replace q5:=eq_true q5
       go_wp2_with (first|(go_at_call 94;(with_reducible refine (head_sign.calls (bt a0 x6_1) false _ ?side1 A6.out).mono ?_);(case side1=>exact StdW.below HS_.out (by repeat (with_reducible first|exact HB.out|apply below_alloc|apply pw_below_drewN|apply below_drew1)));rintro e w9 ⟨rfl,hb⟩;replace HB:=Aside0.mk (below_step (by repeat (with_reducible first|exact HB.out|apply below_alloc|apply pw_below_drewN|apply below_drew1)) hb);clear hb))
       go_ret
       exact ⟨rfl,by with_reducible exact HB.out⟩
     ·rw [if_neg c4] at H
      exact absurd H (by simp)
    ·rw [if_neg c3] at H
     exact absurd H (by simp)
   ·rw [if_neg c2] at H
    have c2b0:=decide_eq_false c2
    clear c2
    by_cases c10:a0.toList=([]:List UInt8)
    ·rw [if_pos c10] at H
     have c10b0:=beq_iff_eq.mpr c10
     have c10b6:a0.toList.isEmpty=true:=by rw [List.isEmpty_iff];exact c10
     have c10b1:=bne_eq_false_iff_eq.mpr c10
     clear c10
     obtain rfl:=Option.some.inj H
     go_wp2
     go_ret
     exact ⟨rfl,by with_reducible exact HB.out⟩
    ·rw [if_neg c10] at H
     have c10b0:=beq_eq_false_iff_ne.mpr c10
     have c10b6:a0.toList.isEmpty=false:=by rw [← Bool.not_eq_true,List.isEmpty_iff];exact c10
     have c10b1:=bne_iff_ne.mpr c10
     obtain rfl:=Option.some.inj H
     go_wp2
     go_ret
     exact ⟨rfl,by with_reducible exact HB.out⟩
end Go.Proofs.YtgmpdjjoefkndaaGreatDoor.XA

namespace Go.Proofs.YtgmpdjjoefkndaaGreatDoor.XA
open Go.Proofs.YtgmpdjjoefkndaaGreatDoor.XK
open Go.RowKit Go.Proofs.YtgmpdjjoefkndaaGreatDoorW.PrintWords Go.Proofs.YtgmpdjjoefkndaaGreatDoorW.PrintLast Go.Proofs.YtgmpdjjoefkndaaGreatDoorW.PrintMore
attribute [local go_sem] max2_int min2_int max_two min_two max_three min_three max_four min_four
set_option linter.unusedVariables false
set_option linter.unusedSimpArgs false
end Go.Proofs.YtgmpdjjoefkndaaGreatDoor.XA

namespace Go.Proofs.YtgmpdjjoefkndaaGreatDoor.E
open Go.RowKit Go.Proofs.YtgmpdjjoefkndaaGreatDoorW.PrintWords Go.Proofs.YtgmpdjjoefkndaaGreatDoorW.PrintLast Go.Proofs.YtgmpdjjoefkndaaGreatDoor.XK Go.Proofs.YtgmpdjjoefkndaaGreatDoor.XA
set_option linter.unusedVariables false
set_option linter.unusedSimpArgs false
theorem sign_f (c:UInt8):head_sign.f (c.toNat:Int)=some (Fd.sign c):=by
 have h: ∀ n:Fin 256,head_sign.f ((UInt8.ofNat n.1).toNat:Int)=some (Fd.sign (UInt8.ofNat n.1)):=by decide+kernel
 have:=h ⟨c.toNat,c.toNat_lt⟩
 simp only [UInt8.ofNat_toNat] at this
 exact this
def tokB (p:ByteArray):Bool:=Fd.token p.data.toList
theorem wrap64_nat (k n:Nat) (h:k<n) (hn:n≤281474976710656):wrap64 ((k:Int)+1)=((k+1:Nat):Int):=by unfold wrap64;omega
theorem token_loop (s:ByteArray) (hs:s.size≤281474976710656): ∀ (m k i:Nat),i+m=s.size→m<k→head_Token.l0 k s (s.size:Int) (i:Int)=some ((s.data.toList.drop i).all Fd.sign && (!s.data.toList.isEmpty && decide (s.data.toList.length≤64))):=by
 intro m
 induction m with
 |zero=>
  intro k i hi hk
  obtain ⟨k,rfl⟩: ∃ j,k=j+1:=⟨k - 1,by omega⟩
  have hl:s.data.toList.length=s.size:=(Lib.size_eq s).symm
  simp only [head_Token.l0]
  rw [if_neg (by omega),List.drop_of_length_le (by omega),hl,ByteArray.toList_eq]
  cases hd:s.data.toList with
  |nil=>rfl
  |cons x r=>
   rw [if_neg (by simp)]
   simp only [List.all_nil,Bool.true_and,List.isEmpty_cons,Bool.not_false]
   congr 1
   rw [Bool.eq_iff_iff,decide_eq_true_eq,decide_eq_true_eq];omega
 |succ m ih=>
  intro k i hi hk
  obtain ⟨k,rfl⟩: ∃ j,k=j+1:=⟨k - 1,by omega⟩
  have hl:s.data.toList.length=s.size:=(Lib.size_eq s).symm
  have hlt:i<s.data.toList.length:=by omega
  have hb:bt s (i:Int)=((s.data.toList[i]).toNat:Int):=by
   have hlt':i<s.size:=by omega
   first|(unfold bt;rw [Int.toNat_natCast,dif_pos hlt'];rfl)|(unfold bt;simp [hlt'];rfl)
  simp only [head_Token.l0]
  rw [if_pos (by omega),if_pos (by omega),if_pos (by omega),hb,sign_f,Option.bind_some,wrap64_nat i s.size (by omega) hs,ih k (i+1) (by omega) (by omega),List.drop_eq_getElem_cons hlt,List.all_cons]
  cases Fd.sign s.data.toList[i]<;>rfl
theorem token_f (s:ByteArray) (hs:s.size≤281474976710656):head_Token.f (s.size+1) s=some (tokB s):=by
 unfold head_Token.f
 have:=token_loop s hs s.size (s.size+1) 0 (by omega) (by omega)
 rw [List.drop_zero] at this
 exact this
theorem token_any (s:ByteArray) (hs:s.size≤281474976710656) (w:World) (hS:StdW w):Calls Tryz.prog 53 #[.string s] w fun e w'=>e= .returned (.bool (tokB s))∧Below w.heap.size w w':=
 head_Token.calls (s.size+1) s (tokB s) w hS (token_f s hs)
theorem below_of_drew {b:Nat} {w w1:World} (h:Below b w.drew w1):Below b w w1:=⟨h.os,h.tape,h.output,h.size,h.block⟩
end Go.Proofs.YtgmpdjjoefkndaaGreatDoor.E

namespace Go.Proofs.YtgmpdjjoefkndaaGreatDoor.Hd
open Go.Lib

abbrev Bs:=List UInt8
def crlf:Bs:=[13,10]
def cc:Bs:=[13,10,13,10]
def crAt (s:Bs) (i:Nat):Bool:=s[i]? ==some 13 && s[i+1]? ==some 10
def empAt (s:Bs) (i:Nat):Bool:=crAt s i && (i==0||(decide (2≤i) && crAt s (i - 2)))
def headN (s:Bs):Option Nat:=if hasPrefix s crlf then some 2 else if 0≤index s cc then some ((index s cc).toNat+4) else none
theorem pre2 (l:Bs):crlf.isPrefixOf l=(l[0]? ==some 13 && l[1]? ==some 10):=by
 unfold crlf
 match l with
 |[]=>rfl
 |[a]=>simp [List.isPrefixOf]
 |a::b::r=>
  simp only [List.isPrefixOf,List.getElem?_cons_zero,List.getElem?_cons_succ,Bool.and_true]
  rw [Bool.eq_iff_iff];simp only [Bool.and_eq_true,beq_iff_eq,Option.some.injEq]
  constructor<;>rintro ⟨h1,h2⟩<;>exact ⟨h1.symm,h2.symm⟩
theorem pre4 (l:Bs):cc.isPrefixOf l=(crlf.isPrefixOf l && crlf.isPrefixOf (l.drop 2)):=by
 unfold cc crlf
 match l with
 |[]=>rfl
 |[a]=>simp [List.isPrefixOf]
 |a::b::r=>simp only [List.isPrefixOf,List.drop_succ_cons,List.drop_zero,Bool.and_true,Bool.and_assoc]
theorem occ2 (s:Bs) (i:Nat):occAt s crlf i=crAt s i:=by
 unfold occAt crAt
 rw [pre2,List.getElem?_drop,List.getElem?_drop];rfl
theorem occ4 (s:Bs) (i:Nat):occAt s cc i=(crAt s i && crAt s (i+2)):=by
 unfold occAt
 rw [pre4,List.drop_drop]
 have h1:=occ2 s i
 have h2:=occ2 s (i+2)
 unfold occAt at h1 h2
 rw [h1,h2]
theorem crAt_lt {s:Bs} {i:Nat} (h:crAt s i=true):i+1<s.length:=by
 unfold crAt at h
 simp only [Bool.and_eq_true,beq_iff_eq] at h
 exact (List.getElem?_eq_some_iff.1 h.2).1
theorem headN_min (s:Bs) (i:Nat) (h:empAt s i=true) (hn: ∀ j,j<i→empAt s j=false):headN s=some (i+2):=by
 unfold headN
 have hp:hasPrefix s crlf=crAt s 0:=by unfold hasPrefix crAt;rw [pre2]
 rw [hp]
 unfold empAt at h
 simp only [Bool.and_eq_true,Bool.or_eq_true,beq_iff_eq,decide_eq_true_eq] at h
 obtain ⟨hc,h0|⟨h2,hc2⟩⟩:=h
 ·subst h0;rw [hc];rfl
 ·have h00:crAt s 0=false:=by
   have:=hn 0 (by omega)
   unfold empAt at this
   simpa using this
  rw [h00,if_neg Bool.false_ne_true]
  have hi:index s cc=((i - 2:Nat):Int):=by
   refine index_first (by have:=crAt_lt hc2;omega) ?_ (fun j hj=>?_)
   ·rw [occ4,hc2,show i - 2+2=i by omega,hc];rfl
   ·rw [occ4]
    cases hj1:crAt s j
    ·rfl
    ·have:=hn (j+2) (by omega)
     unfold empAt at this
     rw [show j+2 - 2=j by omega,hj1] at this
     simp only [decide_eq_true (show 2≤j+2 by omega),Bool.and_true,Bool.or_true] at this
     rw [this];rfl
  rw [hi,if_pos (by omega)]
  congr 1;omega
theorem headN_no (s:Bs) (hn: ∀ j,empAt s j=false):headN s=none:=by
 unfold headN
 have hp:hasPrefix s crlf=crAt s 0:=by unfold hasPrefix crAt;rw [pre2]
 have h00:crAt s 0=false:=by
  have:=hn 0
  unfold empAt at this
  simpa using this
 rw [hp,h00,if_neg Bool.false_ne_true]
 have:index s cc= -1:=index_none fun j _=>by
  rw [occ4]
  cases hj1:crAt s j
  ·rfl
  ·have:=hn (j+2)
   unfold empAt at this
   rw [show j+2 - 2=j by omega,hj1] at this
   simp only [decide_eq_true (show 2≤j+2 by omega),Bool.and_true,Bool.or_true] at this
   rw [this];rfl
 rw [this];rfl
theorem headN_some {s:Bs} {n:Nat} (h:headN s=some n): ∃ i,n=i+2∧empAt s i=true∧ ∀ j,j<i→empAt s j=false:=by
 by_cases hx: ∃ i,empAt s i=true
 ·obtain ⟨i,hi,hm⟩: ∃ i,empAt s i=true∧ ∀ j,j<i→empAt s j=false:=by
   obtain ⟨i,hi⟩:=hx
   induction i using Nat.strongRecOn with
   |_ i ih=>
    by_cases hj: ∃ j,j<i∧empAt s j=true
    ·obtain ⟨j,hj,he⟩:=hj;exact ih j hj he
    ·exact ⟨i,hi,fun j hj2=>by
      cases e:empAt s j
      ·rfl
      ·exact absurd ⟨j,hj2,e⟩ hj⟩
  rw [headN_min s i hi hm] at h
  exact ⟨i,(Option.some.inj h).symm,hi,hm⟩
 ·rw [headN_no s fun j=>by
   cases e:empAt s j
   ·rfl
   ·exact absurd ⟨j,e⟩ hx] at h
  cases h
theorem headN_le {s:Bs} {n:Nat} (h:headN s=some n):2≤n∧n≤s.length:=by
 obtain ⟨i,rfl,hi,_⟩:=headN_some h
 unfold empAt at hi
 rw [Bool.and_eq_true] at hi
 have:=crAt_lt hi.1
 omega
def lastAt (s:Bs):Nat→Nat
 |0=>0
 |i+1=>if crAt s i then i+2 else lastAt s i
theorem lastAt_le (s:Bs): ∀ i,lastAt s i≤i+1
 |0=>Nat.zero_le _
 |i+1=>by
  unfold lastAt
  have:=lastAt_le s i
  split<;>omega
theorem lastAt_emp (s:Bs) (i:Nat) (h:crAt s i=true):empAt s i=decide (i=lastAt s i):=by
 unfold empAt
 rw [h,Bool.true_and]
 match i,h with
 |0,_=>rfl
 |1,h=>
  have h0:crAt s 0=false:=by
   unfold crAt at h ⊢
   simp only [Bool.and_eq_true,beq_iff_eq] at h
   rw [h.1];simp
  simp [lastAt,h0]
 |i+2,h=>
  have h0:crAt s (i+1)=false:=by
   unfold crAt at h ⊢
   simp only [Bool.and_eq_true,beq_iff_eq] at h
   rw [h.1];simp
  have hl:=lastAt_le s i
  simp only [lastAt,h0,Bool.false_eq_true,if_false]
  cases hc:crAt s i
  ·simp [hc];omega
  ·simp [hc]
def endR (b:Bs):(Nat×Nat) ⊕ Nat:=match headN (b.take 8192) with
 |some n=> .inr n
 |none=>if 8192≤b.length then .inl (8192,3) else .inl (b.length,6)
theorem endR_le {b:Bs} {n:Nat} (h:endR b= .inr n):2≤n∧n≤b.length∧n≤8192:=by
 unfold endR at h
 split at h
 ·rename_i m hm
  have:=headN_le hm
  injection h with h
  rw [List.length_take] at this
  omega
 ·split at h<;>cases h
def plain (l:Bs) (least most:Nat):Bool:=l.all (fun c=>decide (least≤c.toNat) && decide (c.toNat≤126)) && decide (l.length≤most)
def spc (l:Bs):Bs:=l.map fun c=>if c=9 then 32 else c
def value (l:Bs):Bool:=plain (spc l) 32 4096 && Fd.trimB l==l
theorem replaceK_spc: ∀ l:Bs,replaceK [9] [32] (count l [9]) l=spc l
 |[]=>by
  rw [count_miss (by simp [index])];rfl
 |b::l=>by
  have ih:=replaceK_spc l
  by_cases h:b=9
  ·subst h
   rw [count_cons_eq,Nat.add_comm,replaceK_hit [9] [32] _ _ 0 (by rw [index];simp [List.isPrefixOf])]
   show []++[32]++replaceK [9] [32] (count l [9]) l=_
   rw [ih];rfl
  ·rw [count_cons_ne b 9 l h]
   have hp:([9]:Bs).isPrefixOf (b::l)=false:=by simp [List.isPrefixOf,Ne.symm h]
   have hs:spc (b::l)=b::spc l:=by unfold spc;rw [List.map_cons,if_neg h]
   cases hn:count l [9] with
   |zero=>
    rw [hn] at ih
    rw [hs,← ih];rfl
   |succ m=>
    obtain ⟨j,hj⟩:=index_of_count (s:=l) (old:=[9]) (by omega)
    have hj2:index (b::l) [9]=((j+1:Nat):Int):=by
     rw [index,hp,hj]
     have:((j:Int)== -1)=false:=by rw [beq_eq_false_iff_ne];omega
     simp [this]
    rw [hn,replaceK_hit _ _ _ _ _ hj] at ih
    rw [hs,← ih,replaceK_hit _ _ _ _ _ hj2,Nat.add_right_comm,List.take_succ_cons,List.drop_succ_cons]
    rfl
theorem replaceAll_spc (l:Bs):replaceAll l [9] [32]=spc l:=by
 unfold replaceAll replace
 rw [if_neg (by decide)]
 have:replaceNum l [9] (-1)=count l [9]:=by unfold replaceNum;rw [if_pos (.inl (by decide))]
 rw [this,replaceK_spc]
theorem spc_len (l:Bs):(spc l).length=l.length:=List.length_map ..
end Go.Proofs.YtgmpdjjoefkndaaGreatDoor.Hd

namespace Go.Proofs.YtgmpdjjoefkndaaGreatDoor.E
open Go.RowKit Go.Proofs.YtgmpdjjoefkndaaGreatDoorW.PrintWords Go.Proofs.YtgmpdjjoefkndaaGreatDoorW.PrintLast
set_option linter.unusedVariables false
set_option linter.unusedSimpArgs false
def Trim.f (s cs:ByteArray):Option ByteArray:=if s.size≤281474976710656∧cs=⟨#[32,9]⟩ then some ⟨(Fd.trimB s.data.toList).toArray⟩ else none
theorem Trim.calls (s cs r:ByteArray) (w:World) (hS_:StdW w) (h:Trim.f s cs=some r):
  Calls Tryz.prog 100 #[.string s,.string cs] w fun e w'=>e= .returned (.string r)∧Below w.heap.size w w':=by
 unfold Trim.f at h
 split at h
 ·rename_i hc
  obtain ⟨hs,rfl⟩:=hc
  obtain rfl:=Option.some.inj h
  exact Any.strings_Trim_laid Tryz.lays160 (by kernel_rfl) s ⟨#[32,9]⟩ w (by omega) (by decide) (ascii_of_all (by decide))
 ·cases h
def RepTab.f (s o n:ByteArray):Option ByteArray:=if s.size<4294967281∧o=⟨#[9]⟩∧n=⟨#[32]⟩ then some ⟨(Hd.spc s.data.toList).toArray⟩ else none
theorem RepTab.calls (s o n r:ByteArray) (w:World) (hS_:StdW w) (h:RepTab.f s o n=some r):
  Calls Tryz.prog 148 #[.string s,.string o,.string n] w fun e w'=>e= .returned (.string r)∧Below w.heap.size w w':=by
 unfold RepTab.f at h
 split at h
 ·rename_i hc
  obtain ⟨hs,rfl,rfl⟩:=hc
  obtain rfl:=Option.some.inj h
  obtain ⟨m,hm⟩:=hS_.max
  have:=Tryz.strings_ReplaceAll s ⟨#[9]⟩ ⟨#[32]⟩ m w hs hm (by decide) (by
   have:=Lib.countB_le ⟨#[9]⟩ (Nat.le_refl _) s.size s (Nat.le_refl _)
   show s.size+Lib.countB s ⟨#[9]⟩*1≤_
   omega)
  rw [show (⟨#[9]⟩:ByteArray).data.toList=[9] from rfl,show (⟨#[32]⟩:ByteArray).data.toList=[32] from rfl,Hd.replaceAll_spc] at this
  exact this
 ·cases h
end Go.Proofs.YtgmpdjjoefkndaaGreatDoor.E

namespace Go.Proofs.YtgmpdjjoefkndaaGreatDoor.XD
open Go.Proofs.YtgmpdjjoefkndaaGreatDoor.XK Go.Proofs.YtgmpdjjoefkndaaGreatDoor.XA
open Go.RowKit Go.Proofs.YtgmpdjjoefkndaaGreatDoorW.PrintWords Go.Proofs.YtgmpdjjoefkndaaGreatDoorW.PrintLast Go.Proofs.YtgmpdjjoefkndaaGreatDoorW.PrintMore
attribute [local go_sem] max2_int min2_int max_two min_two max_three min_three max_four min_four
set_option linter.unusedVariables false
set_option linter.unusedSimpArgs false
end Go.Proofs.YtgmpdjjoefkndaaGreatDoor.XD

namespace Go.Proofs.YtgmpdjjoefkndaaGreatDoor.XD
open Go.Proofs.YtgmpdjjoefkndaaGreatDoor.XK Go.Proofs.YtgmpdjjoefkndaaGreatDoor.XA Go.RowKit Go.Proofs.YtgmpdjjoefkndaaGreatDoorW.PrintWords Go.Proofs.YtgmpdjjoefkndaaGreatDoorW.PrintLast Go.Proofs.YtgmpdjjoefkndaaGreatDoorW.PrintMore
attribute [local go_sem] max2_int min2_int max_two min_two max_three min_three max_four min_four
set_option linter.unusedVariables false
set_option linter.unusedSimpArgs false
def head_within.l0:Nat→ByteArray→Int→Int→Int→Int→Option (Bool)
 |0,_,_,_,_,_=>none
 |k+1,x0,x1,x2,x9,x10=>if x10<x9 then (if 0≤x10 then (if x10<(x0.size:Int) then (if (bt x0 x10)<x1 then (some false) else (if (bt x0 x10)>126 then (some false) else (head_within.l0 k x0 x1 x2 x9 (wrap64 (x10+1))))) else (none)) else (none)) else (some (decide ((x0.size:Int)≤x2)))
def head_within.f (k:Nat) (a0:ByteArray) (a1:Int) (a2:Int):Option (Bool):=head_within.l0 k a0 a1 a2 (a0.size:Int) 0
set_option maxHeartbeats 8000000 in
set_option maxRecDepth 100000 in
theorem head_within.calls (k:Nat) (a0:ByteArray) (a1:Int) (a2:Int) (r:Bool) (w:World) (h:head_within.f k a0 a1 a2=some r):
  Calls Tryz.prog 64 #[.string a0,.int .u8 a1,.int .i64 a2] w fun e w'=>e= .returned (.bool r)∧Drawn0 w w':=by
 have H:(head_within.l0 k a0 a1 a2 (a0.size:Int) 0)=some r:=h
 clear h
 have H':=Aside0.mk H
 clear H
 go_enter Tryz.func64,Tryz.ntmps64
 go_wp2
 go_loopg [10] k (fun kq v10 w'=> ∃ (x10_1:Int),v10= .int .i64 x10_1∧Aside0 (head_within.l0 kq a0 a1 a2 (a0.size:Int) x10_1=some r)∧Aside0 (kq≤k)∧Drawn0 w w')
 case atStart=>exact ⟨(0),rfl,H',⟨Nat.le_refl _⟩,by repeat (first|exact Drawn0.refl _|apply Drawn0.step)⟩
 case round=>
  clear H'
  try clear p2
  obtain ⟨x10_1,rfl,HA,HK1,⟨m1,rfl⟩⟩:=hrel
  cases gk with
  |zero=>exact absurd HA.out (by simp [head_within.l0])
  |succ k1=>
   have H:=HA.out
   clear HA
   simp only [head_within.l0] at H
   by_cases c4:x10_1<(a0.size:Int)
   ·rw [if_pos c4] at H
    have c4b0:=decide_eq_true c4
    clear c4
    by_cases c5:0≤x10_1
    ·rw [if_pos c5] at H
     have c5b0:=decide_eq_true c5
     clear c5
     by_cases c6:x10_1<(a0.size:Int)
     ·rw [if_pos c6] at H
      have c6b0:=decide_eq_true c6
      clear c6
      by_cases c8:(bt a0 x10_1)<a1
      ·rw [if_pos c8] at H
       have c8b0:=decide_eq_true c8
       clear c8
       obtain rfl:=Option.some.inj H
       have p7:0≤(x10_1:Int):=of_decide_eq_true (by assumption)
       have q7:x10_1<(a0.size:Int):=of_decide_eq_true (by assumption)
       have hx7:=bt_at a0 x10_1
       replace p7:=eq_true p7
       replace q7:=eq_true q7
       go_wp2
       go_ret
       exact ⟨by first|rfl|(simp;done)|(simp [*];done),by repeat (first|exact Drawn0.refl _|apply Drawn0.step)⟩
      ·rw [if_neg c8] at H
       have c8b0:=decide_eq_false c8
       clear c8
       by_cases c10:(bt a0 x10_1)>126
       ·rw [if_pos c10] at H
        have c10b0:=decide_eq_true c10
        clear c10
        obtain rfl:=Option.some.inj H
        have p7:0≤(x10_1:Int):=of_decide_eq_true (by assumption)
        have q7:x10_1<(a0.size:Int):=of_decide_eq_true (by assumption)
        have hx7:=bt_at a0 x10_1
        replace p7:=eq_true p7
        replace q7:=eq_true q7
        have p9:0≤(x10_1:Int):=of_decide_eq_true (by assumption)
        have q9:x10_1<(a0.size:Int):=of_decide_eq_true (by assumption)
        have hx9:=bt_at a0 x10_1
        replace p9:=eq_true p9
        replace q9:=eq_true q9
        go_wp2
        go_ret
        exact ⟨by first|rfl|(simp;done)|(simp [*];done),by repeat (first|exact Drawn0.refl _|apply Drawn0.step)⟩
       ·rw [if_neg c10] at H
        have c10b0:=decide_eq_false c10
        clear c10
        have H':=Aside0.mk H
        clear H
        have p7:0≤(x10_1:Int):=of_decide_eq_true (by assumption)
        have q7:x10_1<(a0.size:Int):=of_decide_eq_true (by assumption)
        have hx7:=bt_at a0 x10_1
        replace p7:=eq_true p7
        replace q7:=eq_true q7
        have p9:0≤(x10_1:Int):=of_decide_eq_true (by assumption)
        have q9:x10_1<(a0.size:Int):=of_decide_eq_true (by assumption)
        have hx9:=bt_at a0 x10_1
        replace p9:=eq_true p9
        replace q9:=eq_true q9
        go_wp2
        go_roundg k1
        case measure=>have:=HK1.out;omega
        case rel=>exact ⟨(wrap64 (x10_1+1)),rfl,H',⟨by have:=HK1.out;omega⟩,by repeat (first|exact Drawn0.refl _|apply Drawn0.step)⟩
     ·rw [if_neg c6] at H
      exact absurd H (by simp)
    ·rw [if_neg c5] at H
     exact absurd H (by simp)
   ·rw [if_neg c4] at H
    have c4b0:=decide_eq_false c4
    clear c4
    obtain rfl:=Option.some.inj H
    go_wp2
    go_ret
    exact ⟨by first|rfl|(simp;done)|(simp [*];done),by repeat (first|exact Drawn0.refl _|apply Drawn0.step)⟩
def head_Value.f (k:Nat) (a0:ByteArray):Option (Bool):=(E.RepTab.f a0 (⟨#[9]⟩:ByteArray) (⟨#[32]⟩:ByteArray)).bind fun t101=>((head_within.f k t101 32 4096).bind fun t102=>(if t102=true then ((E.Trim.f a0 (⟨#[32,9]⟩:ByteArray)).bind fun t103=>(some (t103.toList==a0.toList))) else (some false)))
set_option maxHeartbeats 8000000 in
set_option maxRecDepth 100000 in
theorem head_Value.calls (k:Nat) (a0:ByteArray) (r:Bool) (w:World) (hS_:StdW w) (h:head_Value.f k a0=some r):
  Calls Tryz.prog 101 #[.string a0] w fun e w'=>e= .returned (.bool r)∧Below w.heap.size w w':=by
 have HS_:=Aside0.mk hS_
 clear hS_
 have HB:=Aside0.mk (Below.refl w.heap.size w)
 have H:((E.RepTab.f a0 (⟨#[9]⟩:ByteArray) (⟨#[32]⟩:ByteArray)).bind fun t101=>((head_within.f k t101 32 4096).bind fun t102=>(if t102=true then ((E.Trim.f a0 (⟨#[32,9]⟩:ByteArray)).bind fun t103=>(some (t103.toList==a0.toList))) else (some false))))=some r:=h
 clear h
 replace H:=Option.bind_eq_some_iff.mp H
 obtain ⟨t101,A20,H⟩:=H
 have A2:=Aside0.mk A20
 clear A20
 replace H:=Option.bind_eq_some_iff.mp H
 obtain ⟨t102,A30,H⟩:=H
 have A3:=Aside0.mk A30
 clear A30
 by_cases c4:t102=true
 ·subst c4
  have H1:((E.Trim.f a0 (⟨#[32,9]⟩:ByteArray)).bind fun t103=>(some (t103.toList==a0.toList)))=some r:=by rw [if_pos rfl] at H;exact H
  clear H
  have H:=H1
  clear H1
  replace H:=Option.bind_eq_some_iff.mp H
  obtain ⟨t103,A50,H⟩:=H
  have A5:=Aside0.mk A50
  clear A50
  obtain rfl:=Option.some.inj H
  go_enter Tryz.func101,Tryz.ntmps101
  go_wp2_with (first|(go_at_call 148;(with_reducible refine (E.RepTab.calls a0 (⟨#[9]⟩:ByteArray) (⟨#[32]⟩:ByteArray) t101 _ ?side1 A2.out).mono ?_);(case side1=>exact StdW.below HS_.out (by repeat (with_reducible first|exact HB.out|apply below_alloc|apply pw_below_drewN|apply below_drew1)));rintro e w6 ⟨rfl,hb⟩;replace HB:=Aside0.mk (below_step (by repeat (with_reducible first|exact HB.out|apply below_alloc|apply pw_below_drewN|apply below_drew1)) hb);clear hb)|(go_at_call 64;(with_reducible refine (head_within.calls k t101 32 4096 true _ A3.out).mono ?_);rintro e w' ⟨rfl,⟨nd,rfl⟩⟩)|(go_at_call 100;(with_reducible refine (E.Trim.calls a0 (⟨#[32,9]⟩:ByteArray) t103 _ ?side1 A5.out).mono ?_);(case side1=>exact StdW.below HS_.out (by repeat (with_reducible first|exact HB.out|apply below_alloc|apply pw_below_drewN|apply below_drew1)));rintro e w7 ⟨rfl,hb⟩;replace HB:=Aside0.mk (below_step (by repeat (with_reducible first|exact HB.out|apply below_alloc|apply pw_below_drewN|apply below_drew1)) hb);clear hb))
  go_ret
  exact ⟨rfl,by with_reducible exact HB.out⟩
 ·replace c4:=Bool.eq_false_iff.mpr c4
  subst c4
  have H1:(some false)=some r:=by rw [if_neg (show ¬ (false=true) by decide)] at H;exact H
  clear H
  have H:=H1
  clear H1
  obtain rfl:=Option.some.inj H
  go_enter Tryz.func101,Tryz.ntmps101
  go_wp2_with (first|(go_at_call 148;(with_reducible refine (E.RepTab.calls a0 (⟨#[9]⟩:ByteArray) (⟨#[32]⟩:ByteArray) t101 _ ?side1 A2.out).mono ?_);(case side1=>exact StdW.below HS_.out (by repeat (with_reducible first|exact HB.out|apply below_alloc|apply pw_below_drewN|apply below_drew1)));rintro e w8 ⟨rfl,hb⟩;replace HB:=Aside0.mk (below_step (by repeat (with_reducible first|exact HB.out|apply below_alloc|apply pw_below_drewN|apply below_drew1)) hb);clear hb)|(go_at_call 64;(with_reducible refine (head_within.calls k t101 32 4096 false _ A3.out).mono ?_);rintro e w' ⟨rfl,⟨nd,rfl⟩⟩))
  go_ret
  exact ⟨rfl,by repeat (with_reducible first|exact HB.out|apply below_alloc|apply pw_below_drewN|apply below_drew1)⟩
end Go.Proofs.YtgmpdjjoefkndaaGreatDoor.XD

namespace Go.Proofs.YtgmpdjjoefkndaaGreatDoor.XD
open Go.Proofs.YtgmpdjjoefkndaaGreatDoor.XK Go.Proofs.YtgmpdjjoefkndaaGreatDoor.XA
open Go.RowKit Go.Proofs.YtgmpdjjoefkndaaGreatDoorW.PrintWords Go.Proofs.YtgmpdjjoefkndaaGreatDoorW.PrintLast Go.Proofs.YtgmpdjjoefkndaaGreatDoorW.PrintMore
attribute [local go_sem] max2_int min2_int max_two min_two max_three min_three max_four min_four
set_option linter.unusedVariables false
set_option linter.unusedSimpArgs false
end Go.Proofs.YtgmpdjjoefkndaaGreatDoor.XD

namespace Go.Proofs.YtgmpdjjoefkndaaGreatDoor.E
open Go.RowKit Go.Proofs.YtgmpdjjoefkndaaGreatDoorW.PrintWords Go.Proofs.YtgmpdjjoefkndaaGreatDoorW.PrintLast Go.Proofs.YtgmpdjjoefkndaaGreatDoor.XK Go.Proofs.YtgmpdjjoefkndaaGreatDoor.XA Go.Proofs.YtgmpdjjoefkndaaGreatDoor.XD
set_option linter.unusedVariables false
set_option linter.unusedSimpArgs false
def valB (p:ByteArray):Bool:=Hd.value p.data.toList
theorem within_loop (s:ByteArray) (hs:s.size≤281474976710656) (least most:Nat): ∀ (m k i:Nat),i+m=s.size→m<k→head_within.l0 k s (least:Int) (most:Int) (s.size:Int) (i:Int)=some ((s.data.toList.drop i).all (fun c=>decide (least≤c.toNat) && decide (c.toNat≤126)) && decide (s.data.toList.length≤most)):=by
 intro m
 induction m with
 |zero=>
  intro k i hi hk
  obtain ⟨k,rfl⟩: ∃ j,k=j+1:=⟨k - 1,by omega⟩
  have hl:s.data.toList.length=s.size:=(Lib.size_eq s).symm
  simp only [head_within.l0]
  rw [if_neg (by omega),List.drop_of_length_le (by omega),hl]
  simp only [List.all_nil,Bool.true_and]
  congr 1
  rw [Bool.eq_iff_iff,decide_eq_true_eq,decide_eq_true_eq];omega
 |succ m ih=>
  intro k i hi hk
  obtain ⟨k,rfl⟩: ∃ j,k=j+1:=⟨k - 1,by omega⟩
  have hl:s.data.toList.length=s.size:=(Lib.size_eq s).symm
  have hlt:i<s.data.toList.length:=by omega
  have hb:bt s (i:Int)=((s.data.toList[i]).toNat:Int):=by
   have hlt':i<s.size:=by omega
   first|(unfold bt;rw [Int.toNat_natCast,dif_pos hlt'];rfl)|(unfold bt;simp [hlt'];rfl)
  simp only [head_within.l0]
  rw [if_pos (by omega),if_pos (by omega),if_pos (by omega),hb,List.drop_eq_getElem_cons hlt,List.all_cons]
  generalize (s.data.toList[i]).toNat=c
  by_cases h1:c<least
  ·rw [if_pos (by omega),decide_eq_false (show ¬ least≤c by omega)];rfl
  ·by_cases h2:126<c
   ·rw [if_neg (by omega),if_pos (by omega),decide_eq_false (show ¬ c≤126 by omega),Bool.and_false];rfl
   ·rw [if_neg (by omega),if_neg (by omega),wrap64_nat i s.size (by omega) hs,ih k (i+1) (by omega) (by omega),decide_eq_true (show least≤c by omega),decide_eq_true (show c≤126 by omega)];rfl
theorem within_f (s:ByteArray) (hs:s.size≤281474976710656) (least most k:Nat) (hk:s.size<k):head_within.f k s (least:Int) (most:Int)=some (Hd.plain s.data.toList least most):=by
 unfold head_within.f
 have:=within_loop s hs least most s.size k 0 (by omega) hk
 rw [List.drop_zero] at this
 exact this
theorem within_any (s:ByteArray) (hs:s.size≤281474976710656) (least most:Nat) (w:World):Calls Tryz.prog 64 #[.string s,.int .u8 least,.int .i64 most] w fun e w'=>e= .returned (.bool (Hd.plain s.data.toList least most))∧Below w.heap.size w w':=
 (head_within.calls (s.size+1) s least most _ w (within_f s hs least most _ (Nat.lt_succ_self _))).mono fun e w' ⟨he,hd⟩=>⟨he,by obtain ⟨n,rfl⟩:=hd.out;exact below_drewN w n⟩
theorem value_f (s:ByteArray) (hs:s.size<4294967281) (k:Nat) (hk:s.size<k):head_Value.f k s=some (valB s):=by
 unfold head_Value.f RepTab.f Trim.f
 rw [if_pos ⟨hs,rfl,rfl⟩,Option.bind_some]
 have hz:(⟨(Hd.spc s.data.toList).toArray⟩:ByteArray).size=s.size:=by
  show (Hd.spc s.data.toList).toArray.size=_
  rw [List.size_toArray,Hd.spc_len,← Lib.size_eq]
 have:=within_f ⟨(Hd.spc s.data.toList).toArray⟩ (by omega) 32 4096 k (by omega)
 rw [show head_within.f k ⟨(Hd.spc s.data.toList).toArray⟩ 32 4096=some (Hd.plain (Hd.spc s.data.toList) 32 4096) from this,Option.bind_some]
 unfold valB Hd.value
 cases Hd.plain (Hd.spc s.data.toList) 32 4096
 ·rfl
 ·rw [if_pos rfl,if_pos ⟨by omega,rfl⟩,Option.bind_some,Bool.true_and,ByteArray.toList_eq,ByteArray.toList_eq]
theorem value_any (s:ByteArray) (hs:s.size<4294967281) (w:World) (hS:StdW w):Calls Tryz.prog 101 #[.string s] w fun e w'=>e= .returned (.bool (valB s))∧Below w.heap.size w w':=
 head_Value.calls (s.size+1) s (valB s) w hS (value_f s hs _ (Nat.lt_succ_self _))
end Go.Proofs.YtgmpdjjoefkndaaGreatDoor.E

namespace Go.Proofs.YtgmpdjjoefkndaaGreatDoor.XZ
open Go.Proofs.YtgmpdjjoefkndaaGreatDoor.XK Go.Proofs.YtgmpdjjoefkndaaGreatDoor.XA Go.Proofs.YtgmpdjjoefkndaaGreatDoor.XD
open Go.RowKit Go.Proofs.YtgmpdjjoefkndaaGreatDoorW.PrintWords Go.Proofs.YtgmpdjjoefkndaaGreatDoorW.PrintLast Go.Proofs.YtgmpdjjoefkndaaGreatDoorW.PrintMore
attribute [local go_sem] max2_int min2_int max_two min_two max_three min_three max_four min_four
set_option linter.unusedVariables false
set_option linter.unusedSimpArgs false
end Go.Proofs.YtgmpdjjoefkndaaGreatDoor.XZ

namespace Go.Proofs.YtgmpdjjoefkndaaGreatDoor.XZ
open Go.Proofs.YtgmpdjjoefkndaaGreatDoor.XK Go.Proofs.YtgmpdjjoefkndaaGreatDoor.XA Go.Proofs.YtgmpdjjoefkndaaGreatDoor.XD Go.RowKit Go.Proofs.YtgmpdjjoefkndaaGreatDoorW.PrintWords Go.Proofs.YtgmpdjjoefkndaaGreatDoorW.PrintLast Go.Proofs.YtgmpdjjoefkndaaGreatDoorW.PrintMore
attribute [local go_sem] max2_int min2_int max_two min_two max_three min_three max_four min_four
set_option linter.unusedVariables false
set_option linter.unusedSimpArgs false
def sallyportbase_Find.l0:Nat→ByteArray→ByteArray→Int→Option (Int)
 |0,_,_,_=>none
 |k+1,x0,x1,x5=>if (wrap64 (x5+(x1.size:Int)))≤(x0.size:Int) then (if 0≤x5 then (if x5≤(wrap64 (x5+(x1.size:Int))) then (if (x0.extract (x5:Int).toNat ((wrap64 (x5+(x1.size:Int))):Int).toNat).toList=x1.toList then (some x5) else (sallyportbase_Find.l0 k x0 x1 (wrap64 (x5+1)))) else (none)) else (none)) else (some (-1))
def sallyportbase_Find.f (k:Nat) (a0:ByteArray) (a1:ByteArray):Option (Int):=sallyportbase_Find.l0 k a0 a1 0
set_option maxHeartbeats 8000000 in
set_option maxRecDepth 100000 in
theorem sallyportbase_Find.calls (k:Nat) (a0:ByteArray) (a1:ByteArray) (r:Int) (w:World) (h:sallyportbase_Find.f k a0 a1=some r):
  Calls Tryz.prog 102 #[.string a0,.string a1] w fun e w'=>e= .returned (.int .i64 r)∧Drawn0 w w':=by
 have H:(sallyportbase_Find.l0 k a0 a1 0)=some r:=h
 clear h
 have H':=Aside0.mk H
 clear H
 go_enter Tryz.func102,Tryz.ntmps102
 go_wp2
 go_loopg [5] k (fun kq v5 w'=> ∃ (x5_1:Int),v5= .int .i64 x5_1∧Aside0 (sallyportbase_Find.l0 kq a0 a1 x5_1=some r)∧Aside0 (kq≤k)∧Drawn0 w w')
 case atStart=>exact ⟨(0),rfl,H',⟨Nat.le_refl _⟩,by repeat (first|exact Drawn0.refl _|apply Drawn0.step)⟩
 case round=>
  clear H'
  try clear c1
  try clear p2
  obtain ⟨x5_1,rfl,HA,HK1,⟨m1,rfl⟩⟩:=hrel
  cases gk with
  |zero=>exact absurd HA.out (by simp [sallyportbase_Find.l0])
  |succ k1=>
   have H:=HA.out
   clear HA
   simp only [sallyportbase_Find.l0] at H
   by_cases c3:(wrap64 (x5_1+(a1.size:Int)))≤(a0.size:Int)
   ·rw [if_pos c3] at H
    have c3b0:=decide_eq_true c3
    clear c3
    by_cases c4:0≤x5_1
    ·rw [if_pos c4] at H
     have c4b0:=eq_true c4
     have c4b1:=decide_eq_true c4
     clear c4
     by_cases c5:x5_1≤(wrap64 (x5_1+(a1.size:Int)))
     ·rw [if_pos c5] at H
      have c5b0:=eq_true c5
      have c5b1:=decide_eq_true c5
      have c6b0:=eq_true (of_decide_eq_true (by assumption):(wrap64 (x5_1+(a1.size:Int)))≤(a0.size:Int))
      by_cases c7:(a0.extract (x5_1:Int).toNat ((wrap64 (x5_1+(a1.size:Int))):Int).toNat).toList=a1.toList
      ·rw [if_pos c7] at H
       have c7b0:=beq_iff_eq.mpr c7
       have c7b1:=bne_eq_false_iff_eq.mpr c7
       clear c7
       obtain rfl:=Option.some.inj H
       go_wp2
       go_ret
       exact ⟨by first|rfl|(simp;done)|(simp [*];done),by repeat (first|exact Drawn0.refl _|apply Drawn0.step)⟩
      ·rw [if_neg c7] at H
       have c7b0:=beq_eq_false_iff_ne.mpr c7
       have c7b1:=bne_iff_ne.mpr c7
       have H':=Aside0.mk H
       clear H
       go_wp2
       go_roundg k1
       case measure=>have:=HK1.out;omega
       case rel=>exact ⟨(wrap64 (x5_1+1)),rfl,H',⟨by have:=HK1.out;omega⟩,by repeat (first|exact Drawn0.refl _|apply Drawn0.step)⟩
     ·rw [if_neg c5] at H
      exact absurd H (by simp)
    ·rw [if_neg c4] at H
     exact absurd H (by simp)
   ·rw [if_neg c3] at H
    have c3b0:=decide_eq_false c3
    clear c3
    obtain rfl:=Option.some.inj H
    go_wp2
    go_ret
    exact ⟨by first|rfl|(simp;done)|(simp [*];done),by repeat (first|exact Drawn0.refl _|apply Drawn0.step)⟩
def sallyportref08_Token.l0:Nat→ByteArray→Int→Option (Bool)
 |0,_,_=>none
 |k+1,x0,x3=>if x3<(x0.size:Int) then (if 0≤x3 then (if (bt x0 x3)<97 then (if (bt x0 x3)<65 then (if (bt x0 x3)<48 then (if x3≤(wrap64 (x3+1)) then (if (wrap64 (x3+1))≤(x0.size:Int) then ((sallyportbase_Find.f k (⟨#[33,35,36,37,38,39,42,43,45,46,94,95,96,124,126]⟩:ByteArray) (x0.extract (x3:Int).toNat ((wrap64 (x3+1)):Int).toNat)).bind fun t101=>(if t101<0 then (some false) else (sallyportref08_Token.l0 k x0 (wrap64 (x3+1))))) else (none)) else (none)) else (if (bt x0 x3)>57 then (if x3≤(wrap64 (x3+1)) then (if (wrap64 (x3+1))≤(x0.size:Int) then ((sallyportbase_Find.f k (⟨#[33,35,36,37,38,39,42,43,45,46,94,95,96,124,126]⟩:ByteArray) (x0.extract (x3:Int).toNat ((wrap64 (x3+1)):Int).toNat)).bind fun t102=>(if t102<0 then (some false) else (sallyportref08_Token.l0 k x0 (wrap64 (x3+1))))) else (none)) else (none)) else (sallyportref08_Token.l0 k x0 (wrap64 (x3+1))))) else (if (bt x0 x3)>90 then (if (bt x0 x3)<48 then (if x3≤(wrap64 (x3+1)) then (if (wrap64 (x3+1))≤(x0.size:Int) then ((sallyportbase_Find.f k (⟨#[33,35,36,37,38,39,42,43,45,46,94,95,96,124,126]⟩:ByteArray) (x0.extract (x3:Int).toNat ((wrap64 (x3+1)):Int).toNat)).bind fun t103=>(if t103<0 then (some false) else (sallyportref08_Token.l0 k x0 (wrap64 (x3+1))))) else (none)) else (none)) else (if (bt x0 x3)>57 then (if x3≤(wrap64 (x3+1)) then (if (wrap64 (x3+1))≤(x0.size:Int) then ((sallyportbase_Find.f k (⟨#[33,35,36,37,38,39,42,43,45,46,94,95,96,124,126]⟩:ByteArray) (x0.extract (x3:Int).toNat ((wrap64 (x3+1)):Int).toNat)).bind fun t104=>(if t104<0 then (some false) else (sallyportref08_Token.l0 k x0 (wrap64 (x3+1))))) else (none)) else (none)) else (sallyportref08_Token.l0 k x0 (wrap64 (x3+1))))) else (sallyportref08_Token.l0 k x0 (wrap64 (x3+1))))) else (if (bt x0 x3)>122 then (if (bt x0 x3)<65 then (if (bt x0 x3)<48 then (if x3≤(wrap64 (x3+1)) then (if (wrap64 (x3+1))≤(x0.size:Int) then ((sallyportbase_Find.f k (⟨#[33,35,36,37,38,39,42,43,45,46,94,95,96,124,126]⟩:ByteArray) (x0.extract (x3:Int).toNat ((wrap64 (x3+1)):Int).toNat)).bind fun t105=>(if t105<0 then (some false) else (sallyportref08_Token.l0 k x0 (wrap64 (x3+1))))) else (none)) else (none)) else (if (bt x0 x3)>57 then (if x3≤(wrap64 (x3+1)) then (if (wrap64 (x3+1))≤(x0.size:Int) then ((sallyportbase_Find.f k (⟨#[33,35,36,37,38,39,42,43,45,46,94,95,96,124,126]⟩:ByteArray) (x0.extract (x3:Int).toNat ((wrap64 (x3+1)):Int).toNat)).bind fun t106=>(if t106<0 then (some false) else (sallyportref08_Token.l0 k x0 (wrap64 (x3+1))))) else (none)) else (none)) else (sallyportref08_Token.l0 k x0 (wrap64 (x3+1))))) else (if (bt x0 x3)>90 then (if (bt x0 x3)<48 then (if x3≤(wrap64 (x3+1)) then (if (wrap64 (x3+1))≤(x0.size:Int) then ((sallyportbase_Find.f k (⟨#[33,35,36,37,38,39,42,43,45,46,94,95,96,124,126]⟩:ByteArray) (x0.extract (x3:Int).toNat ((wrap64 (x3+1)):Int).toNat)).bind fun t107=>(if t107<0 then (some false) else (sallyportref08_Token.l0 k x0 (wrap64 (x3+1))))) else (none)) else (none)) else (if (bt x0 x3)>57 then (if x3≤(wrap64 (x3+1)) then (if (wrap64 (x3+1))≤(x0.size:Int) then ((sallyportbase_Find.f k (⟨#[33,35,36,37,38,39,42,43,45,46,94,95,96,124,126]⟩:ByteArray) (x0.extract (x3:Int).toNat ((wrap64 (x3+1)):Int).toNat)).bind fun t108=>(if t108<0 then (some false) else (sallyportref08_Token.l0 k x0 (wrap64 (x3+1))))) else (none)) else (none)) else (sallyportref08_Token.l0 k x0 (wrap64 (x3+1))))) else (sallyportref08_Token.l0 k x0 (wrap64 (x3+1))))) else (sallyportref08_Token.l0 k x0 (wrap64 (x3+1))))) else (none)) else (if (x0.size:Int)>0 then (some (decide ((x0.size:Int)≤64))) else (some false))
def sallyportref08_Token.f (k:Nat) (a0:ByteArray):Option (Bool):=sallyportref08_Token.l0 k a0 0
set_option maxHeartbeats 8000000 in
set_option maxRecDepth 100000 in
theorem sallyportref08_Token.calls (k:Nat) (a0:ByteArray) (r:Bool) (w:World) (h:sallyportref08_Token.f k a0=some r):
  Calls Tryz.prog 60 #[.string a0] w fun e w'=>e= .returned (.bool r)∧Drawn0 w w':=by
 have H:(sallyportref08_Token.l0 k a0 0)=some r:=h
 clear h
 have H':=Aside0.mk H
 clear H
 go_enter Tryz.func60,Tryz.ntmps60
 go_wp2
 go_loopg [3] k (fun kq v3 w'=> ∃ (x3_1:Int),v3= .int .i64 x3_1∧Aside0 (sallyportref08_Token.l0 kq a0 x3_1=some r)∧Aside0 (kq≤k)∧Drawn0 w w')
 case atStart=>exact ⟨(0),rfl,H',⟨Nat.le_refl _⟩,by repeat (first|exact Drawn0.refl _|apply Drawn0.step)⟩
 case round=>
  clear H'
  obtain ⟨x3_1,rfl,HA,HK1,⟨m1,rfl⟩⟩:=hrel
  cases gk with
  |zero=>exact absurd HA.out (by simp [sallyportref08_Token.l0])
  |succ k1=>
   have H:=HA.out
   clear HA
   simp only [sallyportref08_Token.l0] at H
   by_cases c2:x3_1<(a0.size:Int)
   ·rw [if_pos c2] at H
    have c2b0:=decide_eq_true c2
    clear c2
    by_cases c3:0≤x3_1
    ·rw [if_pos c3] at H
     have c3b0:=decide_eq_true c3
     clear c3
     by_cases c5:(bt a0 x3_1)<97
     ·rw [if_pos c5] at H
      have c5b0:=decide_eq_true c5
      clear c5
      by_cases c6:(bt a0 x3_1)<65
      ·rw [if_pos c6] at H
       have c6b0:=decide_eq_true c6
       clear c6
       by_cases c7:(bt a0 x3_1)<48
       ·rw [if_pos c7] at H
        have c7b0:=decide_eq_true c7
        clear c7
        have c8b0:=eq_true (of_decide_eq_true (by assumption):0≤x3_1)
        by_cases c9:x3_1≤(wrap64 (x3_1+1))
        ·rw [if_pos c9] at H
         have c9b0:=eq_true c9
         have c9b1:=decide_eq_true c9
         by_cases c10:(wrap64 (x3_1+1))≤(a0.size:Int)
         ·rw [if_pos c10] at H
          have c10b0:=eq_true c10
          have c10b1:=decide_eq_true c10
          replace H:=Option.bind_eq_some_iff.mp H
          obtain ⟨t101,A110,H⟩:=H
          have A11:=Aside0.mk A110
          clear A110
          by_cases c12:t101<0
          ·rw [if_pos c12] at H
           have c12b0:=decide_eq_true c12
           clear c12
           obtain rfl:=Option.some.inj H
           have p4:0≤(x3_1:Int):=of_decide_eq_true (by assumption)
           have q4:x3_1<(a0.size:Int):=of_decide_eq_true (by assumption)
           have hx4:=bt_at a0 x3_1
           replace p4:=eq_true p4
           replace q4:=eq_true q4
           go_wp2_with (first|(go_at_call 102;(with_reducible refine (sallyportbase_Find.calls k1 (⟨#[33,35,36,37,38,39,42,43,45,46,94,95,96,124,126]⟩:ByteArray) (a0.extract (x3_1:Int).toNat ((wrap64 (x3_1+1)):Int).toNat) t101 _ A11.out).mono ?_);rintro e w' ⟨rfl,⟨nd,rfl⟩⟩))
           go_ret
           exact ⟨by first|rfl|(simp;done)|(simp [*];done),by repeat (first|exact Drawn0.refl _|apply Drawn0.step)⟩
          ·rw [if_neg c12] at H
           have c12b0:=decide_eq_false c12
           clear c12
           have H':=Aside0.mk H
           clear H
           have p4:0≤(x3_1:Int):=of_decide_eq_true (by assumption)
           have q4:x3_1<(a0.size:Int):=of_decide_eq_true (by assumption)
           have hx4:=bt_at a0 x3_1
           replace p4:=eq_true p4
           replace q4:=eq_true q4
           go_wp2_with (first|(go_at_call 102;(with_reducible refine (sallyportbase_Find.calls k1 (⟨#[33,35,36,37,38,39,42,43,45,46,94,95,96,124,126]⟩:ByteArray) (a0.extract (x3_1:Int).toNat ((wrap64 (x3_1+1)):Int).toNat) t101 _ A11.out).mono ?_);rintro e w' ⟨rfl,⟨nd,rfl⟩⟩))
           go_roundg k1
           case measure=>have:=HK1.out;omega
           case rel=>exact ⟨(wrap64 (x3_1+1)),rfl,H',⟨by have:=HK1.out;omega⟩,by repeat (first|exact Drawn0.refl _|apply Drawn0.step)⟩
         ·rw [if_neg c10] at H
          exact absurd H (by simp)
        ·rw [if_neg c9] at H
         exact absurd H (by simp)
       ·rw [if_neg c7] at H
        have c7b0:=decide_eq_false c7
        clear c7
        by_cases c13:(bt a0 x3_1)>57
        ·rw [if_pos c13] at H
         have c13b0:=decide_eq_true c13
         clear c13
         have c14b0:=eq_true (of_decide_eq_true (by assumption):0≤x3_1)
         by_cases c15:x3_1≤(wrap64 (x3_1+1))
         ·rw [if_pos c15] at H
          have c15b0:=eq_true c15
          have c15b1:=decide_eq_true c15
          by_cases c16:(wrap64 (x3_1+1))≤(a0.size:Int)
          ·rw [if_pos c16] at H
           have c16b0:=eq_true c16
           have c16b1:=decide_eq_true c16
           replace H:=Option.bind_eq_some_iff.mp H
           obtain ⟨t102,A170,H⟩:=H
           have A17:=Aside0.mk A170
           clear A170
           by_cases c18:t102<0
           ·rw [if_pos c18] at H
            have c18b0:=decide_eq_true c18
            clear c18
            obtain rfl:=Option.some.inj H
            have p4:0≤(x3_1:Int):=of_decide_eq_true (by assumption)
            have q4:x3_1<(a0.size:Int):=of_decide_eq_true (by assumption)
            have hx4:=bt_at a0 x3_1
            replace p4:=eq_true p4
            replace q4:=eq_true q4
            go_wp2_with (first|(go_at_call 102;(with_reducible refine (sallyportbase_Find.calls k1 (⟨#[33,35,36,37,38,39,42,43,45,46,94,95,96,124,126]⟩:ByteArray) (a0.extract (x3_1:Int).toNat ((wrap64 (x3_1+1)):Int).toNat) t102 _ A17.out).mono ?_);rintro e w' ⟨rfl,⟨nd,rfl⟩⟩))
            go_ret
            exact ⟨by first|rfl|(simp;done)|(simp [*];done),by repeat (first|exact Drawn0.refl _|apply Drawn0.step)⟩
           ·rw [if_neg c18] at H
            have c18b0:=decide_eq_false c18
            clear c18
            have H':=Aside0.mk H
            clear H
            have p4:0≤(x3_1:Int):=of_decide_eq_true (by assumption)
            have q4:x3_1<(a0.size:Int):=of_decide_eq_true (by assumption)
            have hx4:=bt_at a0 x3_1
            replace p4:=eq_true p4
            replace q4:=eq_true q4
            go_wp2_with (first|(go_at_call 102;(with_reducible refine (sallyportbase_Find.calls k1 (⟨#[33,35,36,37,38,39,42,43,45,46,94,95,96,124,126]⟩:ByteArray) (a0.extract (x3_1:Int).toNat ((wrap64 (x3_1+1)):Int).toNat) t102 _ A17.out).mono ?_);rintro e w' ⟨rfl,⟨nd,rfl⟩⟩))
            go_roundg k1
            case measure=>have:=HK1.out;omega
            case rel=>exact ⟨(wrap64 (x3_1+1)),rfl,H',⟨by have:=HK1.out;omega⟩,by repeat (first|exact Drawn0.refl _|apply Drawn0.step)⟩
          ·rw [if_neg c16] at H
           exact absurd H (by simp)
         ·rw [if_neg c15] at H
          exact absurd H (by simp)
        ·rw [if_neg c13] at H
         have c13b0:=decide_eq_false c13
         clear c13
         have H':=Aside0.mk H
         clear H
         have p4:0≤(x3_1:Int):=of_decide_eq_true (by assumption)
         have q4:x3_1<(a0.size:Int):=of_decide_eq_true (by assumption)
         have hx4:=bt_at a0 x3_1
         replace p4:=eq_true p4
         replace q4:=eq_true q4
         go_wp2
         go_roundg k1
         case measure=>have:=HK1.out;omega
         case rel=>exact ⟨(wrap64 (x3_1+1)),rfl,H',⟨by have:=HK1.out;omega⟩,by repeat (first|exact Drawn0.refl _|apply Drawn0.step)⟩
      ·rw [if_neg c6] at H
       have c6b0:=decide_eq_false c6
       clear c6
       by_cases c19:(bt a0 x3_1)>90
       ·rw [if_pos c19] at H
        have c19b0:=decide_eq_true c19
        clear c19
        by_cases c20:(bt a0 x3_1)<48
        ·rw [if_pos c20] at H
         have c20b0:=decide_eq_true c20
         clear c20
         have c21b0:=eq_true (of_decide_eq_true (by assumption):0≤x3_1)
         by_cases c22:x3_1≤(wrap64 (x3_1+1))
         ·rw [if_pos c22] at H
          have c22b0:=eq_true c22
          have c22b1:=decide_eq_true c22
          by_cases c23:(wrap64 (x3_1+1))≤(a0.size:Int)
          ·rw [if_pos c23] at H
           have c23b0:=eq_true c23
           have c23b1:=decide_eq_true c23
           replace H:=Option.bind_eq_some_iff.mp H
           obtain ⟨t103,A240,H⟩:=H
           have A24:=Aside0.mk A240
           clear A240
           by_cases c25:t103<0
           ·rw [if_pos c25] at H
            have c25b0:=decide_eq_true c25
            clear c25
            obtain rfl:=Option.some.inj H
            have p4:0≤(x3_1:Int):=of_decide_eq_true (by assumption)
            have q4:x3_1<(a0.size:Int):=of_decide_eq_true (by assumption)
            have hx4:=bt_at a0 x3_1
            replace p4:=eq_true p4
            replace q4:=eq_true q4
            go_wp2_with (first|(go_at_call 102;(with_reducible refine (sallyportbase_Find.calls k1 (⟨#[33,35,36,37,38,39,42,43,45,46,94,95,96,124,126]⟩:ByteArray) (a0.extract (x3_1:Int).toNat ((wrap64 (x3_1+1)):Int).toNat) t103 _ A24.out).mono ?_);rintro e w' ⟨rfl,⟨nd,rfl⟩⟩))
            go_ret
            exact ⟨by first|rfl|(simp;done)|(simp [*];done),by repeat (first|exact Drawn0.refl _|apply Drawn0.step)⟩
           ·rw [if_neg c25] at H
            have c25b0:=decide_eq_false c25
            clear c25
            have H':=Aside0.mk H
            clear H
            have p4:0≤(x3_1:Int):=of_decide_eq_true (by assumption)
            have q4:x3_1<(a0.size:Int):=of_decide_eq_true (by assumption)
            have hx4:=bt_at a0 x3_1
            replace p4:=eq_true p4
            replace q4:=eq_true q4
            go_wp2_with (first|(go_at_call 102;(with_reducible refine (sallyportbase_Find.calls k1 (⟨#[33,35,36,37,38,39,42,43,45,46,94,95,96,124,126]⟩:ByteArray) (a0.extract (x3_1:Int).toNat ((wrap64 (x3_1+1)):Int).toNat) t103 _ A24.out).mono ?_);rintro e w' ⟨rfl,⟨nd,rfl⟩⟩))
            go_roundg k1
            case measure=>have:=HK1.out;omega
            case rel=>exact ⟨(wrap64 (x3_1+1)),rfl,H',⟨by have:=HK1.out;omega⟩,by repeat (first|exact Drawn0.refl _|apply Drawn0.step)⟩
          ·rw [if_neg c23] at H
           exact absurd H (by simp)
         ·rw [if_neg c22] at H
          exact absurd H (by simp)
        ·rw [if_neg c20] at H
         have c20b0:=decide_eq_false c20
         clear c20
         by_cases c26:(bt a0 x3_1)>57
         ·rw [if_pos c26] at H
          have c26b0:=decide_eq_true c26
          clear c26
          have c27b0:=eq_true (of_decide_eq_true (by assumption):0≤x3_1)
          by_cases c28:x3_1≤(wrap64 (x3_1+1))
          ·rw [if_pos c28] at H
           have c28b0:=eq_true c28
           have c28b1:=decide_eq_true c28
           by_cases c29:(wrap64 (x3_1+1))≤(a0.size:Int)
           ·rw [if_pos c29] at H
            have c29b0:=eq_true c29
            have c29b1:=decide_eq_true c29
            replace H:=Option.bind_eq_some_iff.mp H
            obtain ⟨t104,A300,H⟩:=H
            have A30:=Aside0.mk A300
            clear A300
            by_cases c31:t104<0
            ·rw [if_pos c31] at H
             have c31b0:=decide_eq_true c31
             clear c31
             obtain rfl:=Option.some.inj H
             have p4:0≤(x3_1:Int):=of_decide_eq_true (by assumption)
             have q4:x3_1<(a0.size:Int):=of_decide_eq_true (by assumption)
             have hx4:=bt_at a0 x3_1
             replace p4:=eq_true p4
             replace q4:=eq_true q4
             go_wp2_with (first|(go_at_call 102;(with_reducible refine (sallyportbase_Find.calls k1 (⟨#[33,35,36,37,38,39,42,43,45,46,94,95,96,124,126]⟩:ByteArray) (a0.extract (x3_1:Int).toNat ((wrap64 (x3_1+1)):Int).toNat) t104 _ A30.out).mono ?_);rintro e w' ⟨rfl,⟨nd,rfl⟩⟩))
             go_ret
             exact ⟨by first|rfl|(simp;done)|(simp [*];done),by repeat (first|exact Drawn0.refl _|apply Drawn0.step)⟩
            ·rw [if_neg c31] at H
             have c31b0:=decide_eq_false c31
             clear c31
             have H':=Aside0.mk H
             clear H
             have p4:0≤(x3_1:Int):=of_decide_eq_true (by assumption)
             have q4:x3_1<(a0.size:Int):=of_decide_eq_true (by assumption)
             have hx4:=bt_at a0 x3_1
             replace p4:=eq_true p4
             replace q4:=eq_true q4
             go_wp2_with (first|(go_at_call 102;(with_reducible refine (sallyportbase_Find.calls k1 (⟨#[33,35,36,37,38,39,42,43,45,46,94,95,96,124,126]⟩:ByteArray) (a0.extract (x3_1:Int).toNat ((wrap64 (x3_1+1)):Int).toNat) t104 _ A30.out).mono ?_);rintro e w' ⟨rfl,⟨nd,rfl⟩⟩))
             go_roundg k1
             case measure=>have:=HK1.out;omega
             case rel=>exact ⟨(wrap64 (x3_1+1)),rfl,H',⟨by have:=HK1.out;omega⟩,by repeat (first|exact Drawn0.refl _|apply Drawn0.step)⟩
           ·rw [if_neg c29] at H
            exact absurd H (by simp)
          ·rw [if_neg c28] at H
           exact absurd H (by simp)
         ·rw [if_neg c26] at H
          have c26b0:=decide_eq_false c26
          clear c26
          have H':=Aside0.mk H
          clear H
          have p4:0≤(x3_1:Int):=of_decide_eq_true (by assumption)
          have q4:x3_1<(a0.size:Int):=of_decide_eq_true (by assumption)
          have hx4:=bt_at a0 x3_1
          replace p4:=eq_true p4
          replace q4:=eq_true q4
          go_wp2
          go_roundg k1
          case measure=>have:=HK1.out;omega
          case rel=>exact ⟨(wrap64 (x3_1+1)),rfl,H',⟨by have:=HK1.out;omega⟩,by repeat (first|exact Drawn0.refl _|apply Drawn0.step)⟩
       ·rw [if_neg c19] at H
        have c19b0:=decide_eq_false c19
        clear c19
        have H':=Aside0.mk H
        clear H
        have p4:0≤(x3_1:Int):=of_decide_eq_true (by assumption)
        have q4:x3_1<(a0.size:Int):=of_decide_eq_true (by assumption)
        have hx4:=bt_at a0 x3_1
        replace p4:=eq_true p4
        replace q4:=eq_true q4
        go_wp2
        go_roundg k1
        case measure=>have:=HK1.out;omega
        case rel=>exact ⟨(wrap64 (x3_1+1)),rfl,H',⟨by have:=HK1.out;omega⟩,by repeat (first|exact Drawn0.refl _|apply Drawn0.step)⟩
     ·rw [if_neg c5] at H
      have c5b0:=decide_eq_false c5
      clear c5
      by_cases c32:(bt a0 x3_1)>122
      ·rw [if_pos c32] at H
       have c32b0:=decide_eq_true c32
       clear c32
       by_cases c33:(bt a0 x3_1)<65
       ·rw [if_pos c33] at H
        have c33b0:=decide_eq_true c33
        clear c33
        by_cases c34:(bt a0 x3_1)<48
        ·rw [if_pos c34] at H
         have c34b0:=decide_eq_true c34
         clear c34
         have c35b0:=eq_true (of_decide_eq_true (by assumption):0≤x3_1)
         by_cases c36:x3_1≤(wrap64 (x3_1+1))
         ·rw [if_pos c36] at H
          have c36b0:=eq_true c36
          have c36b1:=decide_eq_true c36
          by_cases c37:(wrap64 (x3_1+1))≤(a0.size:Int)
          ·rw [if_pos c37] at H
           have c37b0:=eq_true c37
           have c37b1:=decide_eq_true c37
           replace H:=Option.bind_eq_some_iff.mp H
           obtain ⟨t105,A380,H⟩:=H
           have A38:=Aside0.mk A380
           clear A380
           by_cases c39:t105<0
           ·rw [if_pos c39] at H
            have c39b0:=decide_eq_true c39
            clear c39
            obtain rfl:=Option.some.inj H
            have p4:0≤(x3_1:Int):=of_decide_eq_true (by assumption)
            have q4:x3_1<(a0.size:Int):=of_decide_eq_true (by assumption)
            have hx4:=bt_at a0 x3_1
            replace p4:=eq_true p4
            replace q4:=eq_true q4
            go_wp2_with (first|(go_at_call 102;(with_reducible refine (sallyportbase_Find.calls k1 (⟨#[33,35,36,37,38,39,42,43,45,46,94,95,96,124,126]⟩:ByteArray) (a0.extract (x3_1:Int).toNat ((wrap64 (x3_1+1)):Int).toNat) t105 _ A38.out).mono ?_);rintro e w' ⟨rfl,⟨nd,rfl⟩⟩))
            go_ret
            exact ⟨by first|rfl|(simp;done)|(simp [*];done),by repeat (first|exact Drawn0.refl _|apply Drawn0.step)⟩
           ·rw [if_neg c39] at H
            have c39b0:=decide_eq_false c39
            clear c39
            have H':=Aside0.mk H
            clear H
            have p4:0≤(x3_1:Int):=of_decide_eq_true (by assumption)
            have q4:x3_1<(a0.size:Int):=of_decide_eq_true (by assumption)
            have hx4:=bt_at a0 x3_1
            replace p4:=eq_true p4
            replace q4:=eq_true q4
            go_wp2_with (first|(go_at_call 102;(with_reducible refine (sallyportbase_Find.calls k1 (⟨#[33,35,36,37,38,39,42,43,45,46,94,95,96,124,126]⟩:ByteArray) (a0.extract (x3_1:Int).toNat ((wrap64 (x3_1+1)):Int).toNat) t105 _ A38.out).mono ?_);rintro e w' ⟨rfl,⟨nd,rfl⟩⟩))
            go_roundg k1
            case measure=>have:=HK1.out;omega
            case rel=>exact ⟨(wrap64 (x3_1+1)),rfl,H',⟨by have:=HK1.out;omega⟩,by repeat (first|exact Drawn0.refl _|apply Drawn0.step)⟩
          ·rw [if_neg c37] at H
           exact absurd H (by simp)
         ·rw [if_neg c36] at H
          exact absurd H (by simp)
        ·rw [if_neg c34] at H
         have c34b0:=decide_eq_false c34
         clear c34
         by_cases c40:(bt a0 x3_1)>57
         ·rw [if_pos c40] at H
          have c40b0:=decide_eq_true c40
          clear c40
          have c41b0:=eq_true (of_decide_eq_true (by assumption):0≤x3_1)
          by_cases c42:x3_1≤(wrap64 (x3_1+1))
          ·rw [if_pos c42] at H
           have c42b0:=eq_true c42
           have c42b1:=decide_eq_true c42
           by_cases c43:(wrap64 (x3_1+1))≤(a0.size:Int)
           ·rw [if_pos c43] at H
            have c43b0:=eq_true c43
            have c43b1:=decide_eq_true c43
            replace H:=Option.bind_eq_some_iff.mp H
            obtain ⟨t106,A440,H⟩:=H
            have A44:=Aside0.mk A440
            clear A440
            by_cases c45:t106<0
            ·rw [if_pos c45] at H
             have c45b0:=decide_eq_true c45
             clear c45
             obtain rfl:=Option.some.inj H
             have p4:0≤(x3_1:Int):=of_decide_eq_true (by assumption)
             have q4:x3_1<(a0.size:Int):=of_decide_eq_true (by assumption)
             have hx4:=bt_at a0 x3_1
             replace p4:=eq_true p4
             replace q4:=eq_true q4
             go_wp2_with (first|(go_at_call 102;(with_reducible refine (sallyportbase_Find.calls k1 (⟨#[33,35,36,37,38,39,42,43,45,46,94,95,96,124,126]⟩:ByteArray) (a0.extract (x3_1:Int).toNat ((wrap64 (x3_1+1)):Int).toNat) t106 _ A44.out).mono ?_);rintro e w' ⟨rfl,⟨nd,rfl⟩⟩))
             go_ret
             exact ⟨by first|rfl|(simp;done)|(simp [*];done),by repeat (first|exact Drawn0.refl _|apply Drawn0.step)⟩
            ·rw [if_neg c45] at H
             have c45b0:=decide_eq_false c45
             clear c45
             have H':=Aside0.mk H
             clear H
             have p4:0≤(x3_1:Int):=of_decide_eq_true (by assumption)
             have q4:x3_1<(a0.size:Int):=of_decide_eq_true (by assumption)
             have hx4:=bt_at a0 x3_1
             replace p4:=eq_true p4
             replace q4:=eq_true q4
             go_wp2_with (first|(go_at_call 102;(with_reducible refine (sallyportbase_Find.calls k1 (⟨#[33,35,36,37,38,39,42,43,45,46,94,95,96,124,126]⟩:ByteArray) (a0.extract (x3_1:Int).toNat ((wrap64 (x3_1+1)):Int).toNat) t106 _ A44.out).mono ?_);rintro e w' ⟨rfl,⟨nd,rfl⟩⟩))
             go_roundg k1
             case measure=>have:=HK1.out;omega
             case rel=>exact ⟨(wrap64 (x3_1+1)),rfl,H',⟨by have:=HK1.out;omega⟩,by repeat (first|exact Drawn0.refl _|apply Drawn0.step)⟩
           ·rw [if_neg c43] at H
            exact absurd H (by simp)
          ·rw [if_neg c42] at H
           exact absurd H (by simp)
         ·rw [if_neg c40] at H
          have c40b0:=decide_eq_false c40
          clear c40
          have H':=Aside0.mk H
          clear H
          have p4:0≤(x3_1:Int):=of_decide_eq_true (by assumption)
          have q4:x3_1<(a0.size:Int):=of_decide_eq_true (by assumption)
          have hx4:=bt_at a0 x3_1
          replace p4:=eq_true p4
          replace q4:=eq_true q4
          go_wp2
          go_roundg k1
          case measure=>have:=HK1.out;omega
          case rel=>exact ⟨(wrap64 (x3_1+1)),rfl,H',⟨by have:=HK1.out;omega⟩,by repeat (first|exact Drawn0.refl _|apply Drawn0.step)⟩
       ·rw [if_neg c33] at H
        have c33b0:=decide_eq_false c33
        clear c33
        by_cases c46:(bt a0 x3_1)>90
        ·rw [if_pos c46] at H
         have c46b0:=decide_eq_true c46
         clear c46
         by_cases c47:(bt a0 x3_1)<48
         ·rw [if_pos c47] at H
          have c47b0:=decide_eq_true c47
          clear c47
          have c48b0:=eq_true (of_decide_eq_true (by assumption):0≤x3_1)
          by_cases c49:x3_1≤(wrap64 (x3_1+1))
          ·rw [if_pos c49] at H
           have c49b0:=eq_true c49
           have c49b1:=decide_eq_true c49
           by_cases c50:(wrap64 (x3_1+1))≤(a0.size:Int)
           ·rw [if_pos c50] at H
            have c50b0:=eq_true c50
            have c50b1:=decide_eq_true c50
            replace H:=Option.bind_eq_some_iff.mp H
            obtain ⟨t107,A510,H⟩:=H
            have A51:=Aside0.mk A510
            clear A510
            by_cases c52:t107<0
            ·rw [if_pos c52] at H
             have c52b0:=decide_eq_true c52
             clear c52
             obtain rfl:=Option.some.inj H
             have p4:0≤(x3_1:Int):=of_decide_eq_true (by assumption)
             have q4:x3_1<(a0.size:Int):=of_decide_eq_true (by assumption)
             have hx4:=bt_at a0 x3_1
             replace p4:=eq_true p4
             replace q4:=eq_true q4
             go_wp2_with (first|(go_at_call 102;(with_reducible refine (sallyportbase_Find.calls k1 (⟨#[33,35,36,37,38,39,42,43,45,46,94,95,96,124,126]⟩:ByteArray) (a0.extract (x3_1:Int).toNat ((wrap64 (x3_1+1)):Int).toNat) t107 _ A51.out).mono ?_);rintro e w' ⟨rfl,⟨nd,rfl⟩⟩))
             go_ret
             exact ⟨by first|rfl|(simp;done)|(simp [*];done),by repeat (first|exact Drawn0.refl _|apply Drawn0.step)⟩
            ·rw [if_neg c52] at H
             have c52b0:=decide_eq_false c52
             clear c52
             have H':=Aside0.mk H
             clear H
             have p4:0≤(x3_1:Int):=of_decide_eq_true (by assumption)
             have q4:x3_1<(a0.size:Int):=of_decide_eq_true (by assumption)
             have hx4:=bt_at a0 x3_1
             replace p4:=eq_true p4
             replace q4:=eq_true q4
             go_wp2_with (first|(go_at_call 102;(with_reducible refine (sallyportbase_Find.calls k1 (⟨#[33,35,36,37,38,39,42,43,45,46,94,95,96,124,126]⟩:ByteArray) (a0.extract (x3_1:Int).toNat ((wrap64 (x3_1+1)):Int).toNat) t107 _ A51.out).mono ?_);rintro e w' ⟨rfl,⟨nd,rfl⟩⟩))
             go_roundg k1
             case measure=>have:=HK1.out;omega
             case rel=>exact ⟨(wrap64 (x3_1+1)),rfl,H',⟨by have:=HK1.out;omega⟩,by repeat (first|exact Drawn0.refl _|apply Drawn0.step)⟩
           ·rw [if_neg c50] at H
            exact absurd H (by simp)
          ·rw [if_neg c49] at H
           exact absurd H (by simp)
         ·rw [if_neg c47] at H
          have c47b0:=decide_eq_false c47
          clear c47
          by_cases c53:(bt a0 x3_1)>57
          ·rw [if_pos c53] at H
           have c53b0:=decide_eq_true c53
           clear c53
           have c54b0:=eq_true (of_decide_eq_true (by assumption):0≤x3_1)
           by_cases c55:x3_1≤(wrap64 (x3_1+1))
           ·rw [if_pos c55] at H
            have c55b0:=eq_true c55
            have c55b1:=decide_eq_true c55
            by_cases c56:(wrap64 (x3_1+1))≤(a0.size:Int)
            ·rw [if_pos c56] at H
             have c56b0:=eq_true c56
             have c56b1:=decide_eq_true c56
             replace H:=Option.bind_eq_some_iff.mp H
             obtain ⟨t108,A570,H⟩:=H
             have A57:=Aside0.mk A570
             clear A570
             by_cases c58:t108<0
             ·rw [if_pos c58] at H
              have c58b0:=decide_eq_true c58
              clear c58
              obtain rfl:=Option.some.inj H
              have p4:0≤(x3_1:Int):=of_decide_eq_true (by assumption)
              have q4:x3_1<(a0.size:Int):=of_decide_eq_true (by assumption)
              have hx4:=bt_at a0 x3_1
              replace p4:=eq_true p4
              replace q4:=eq_true q4
              go_wp2_with (first|(go_at_call 102;(with_reducible refine (sallyportbase_Find.calls k1 (⟨#[33,35,36,37,38,39,42,43,45,46,94,95,96,124,126]⟩:ByteArray) (a0.extract (x3_1:Int).toNat ((wrap64 (x3_1+1)):Int).toNat) t108 _ A57.out).mono ?_);rintro e w' ⟨rfl,⟨nd,rfl⟩⟩))
              go_ret
              exact ⟨by first|rfl|(simp;done)|(simp [*];done),by repeat (first|exact Drawn0.refl _|apply Drawn0.step)⟩
             ·rw [if_neg c58] at H
              have c58b0:=decide_eq_false c58
              clear c58
              have H':=Aside0.mk H
              clear H
              have p4:0≤(x3_1:Int):=of_decide_eq_true (by assumption)
              have q4:x3_1<(a0.size:Int):=of_decide_eq_true (by assumption)
              have hx4:=bt_at a0 x3_1
              replace p4:=eq_true p4
              replace q4:=eq_true q4
              go_wp2_with (first|(go_at_call 102;(with_reducible refine (sallyportbase_Find.calls k1 (⟨#[33,35,36,37,38,39,42,43,45,46,94,95,96,124,126]⟩:ByteArray) (a0.extract (x3_1:Int).toNat ((wrap64 (x3_1+1)):Int).toNat) t108 _ A57.out).mono ?_);rintro e w' ⟨rfl,⟨nd,rfl⟩⟩))
              go_roundg k1
              case measure=>have:=HK1.out;omega
              case rel=>exact ⟨(wrap64 (x3_1+1)),rfl,H',⟨by have:=HK1.out;omega⟩,by repeat (first|exact Drawn0.refl _|apply Drawn0.step)⟩
            ·rw [if_neg c56] at H
             exact absurd H (by simp)
           ·rw [if_neg c55] at H
            exact absurd H (by simp)
          ·rw [if_neg c53] at H
           have c53b0:=decide_eq_false c53
           clear c53
           have H':=Aside0.mk H
           clear H
           have p4:0≤(x3_1:Int):=of_decide_eq_true (by assumption)
           have q4:x3_1<(a0.size:Int):=of_decide_eq_true (by assumption)
           have hx4:=bt_at a0 x3_1
           replace p4:=eq_true p4
           replace q4:=eq_true q4
           go_wp2
           go_roundg k1
           case measure=>have:=HK1.out;omega
           case rel=>exact ⟨(wrap64 (x3_1+1)),rfl,H',⟨by have:=HK1.out;omega⟩,by repeat (first|exact Drawn0.refl _|apply Drawn0.step)⟩
        ·rw [if_neg c46] at H
         have c46b0:=decide_eq_false c46
         clear c46
         have H':=Aside0.mk H
         clear H
         have p4:0≤(x3_1:Int):=of_decide_eq_true (by assumption)
         have q4:x3_1<(a0.size:Int):=of_decide_eq_true (by assumption)
         have hx4:=bt_at a0 x3_1
         replace p4:=eq_true p4
         replace q4:=eq_true q4
         go_wp2
         go_roundg k1
         case measure=>have:=HK1.out;omega
         case rel=>exact ⟨(wrap64 (x3_1+1)),rfl,H',⟨by have:=HK1.out;omega⟩,by repeat (first|exact Drawn0.refl _|apply Drawn0.step)⟩
      ·rw [if_neg c32] at H
       have c32b0:=decide_eq_false c32
       clear c32
       have H':=Aside0.mk H
       clear H
       have p4:0≤(x3_1:Int):=of_decide_eq_true (by assumption)
       have q4:x3_1<(a0.size:Int):=of_decide_eq_true (by assumption)
       have hx4:=bt_at a0 x3_1
       replace p4:=eq_true p4
       replace q4:=eq_true q4
       go_wp2
       go_roundg k1
       case measure=>have:=HK1.out;omega
       case rel=>exact ⟨(wrap64 (x3_1+1)),rfl,H',⟨by have:=HK1.out;omega⟩,by repeat (first|exact Drawn0.refl _|apply Drawn0.step)⟩
    ·rw [if_neg c3] at H
     exact absurd H (by simp)
   ·rw [if_neg c2] at H
    have c2b0:=decide_eq_false c2
    clear c2
    by_cases c59:(a0.size:Int)>0
    ·rw [if_pos c59] at H
     have c59b0:=decide_eq_true c59
     have c59b1:decide (0<a0.size)=true:=decide_eq_true (by omega)
     clear c59
     obtain rfl:=Option.some.inj H
     go_wp2
     go_ret
     exact ⟨by first|rfl|(simp;done)|(simp [*];done),by repeat (first|exact Drawn0.refl _|apply Drawn0.step)⟩
    ·rw [if_neg c59] at H
     have c59b0:=decide_eq_false c59
     have c59b1:decide (0<a0.size)=false:=decide_eq_false (by omega)
     clear c59
     obtain rfl:=Option.some.inj H
     go_wp2
     go_ret
     exact ⟨by first|rfl|(simp;done)|(simp [*];done),by repeat (first|exact Drawn0.refl _|apply Drawn0.step)⟩
def sallyportref08_blank.f (a0:Int):Option (Bool):=if a0=32 then (some true) else (some (a0==9))
set_option maxHeartbeats 8000000 in
set_option maxRecDepth 100000 in
theorem sallyportref08_blank.calls (a0:Int) (r:Bool) (w:World) (h:sallyportref08_blank.f a0=some r):
  Calls Tryz.prog 105 #[.int .u8 a0] w fun e w'=>e= .returned (.bool r)∧Drawn0 w w':=by
 have H:(if a0=32 then (some true) else (some (a0==9)))=some r:=h
 clear h
 by_cases c2:a0=32
 ·rw [if_pos c2] at H
  have c2b0:=beq_iff_eq.mpr c2
  have c2b1:=bne_eq_false_iff_eq.mpr c2
  clear c2
  obtain rfl:=Option.some.inj H
  go_enter Tryz.func105,Tryz.ntmps105
  go_wp2
  go_ret
  exact ⟨by first|rfl|(simp;done)|(simp [*];done),by repeat (first|exact Drawn0.refl _|apply Drawn0.step)⟩
 ·rw [if_neg c2] at H
  have c2b0:=beq_eq_false_iff_ne.mpr c2
  have c2b1:=bne_iff_ne.mpr c2
  obtain rfl:=Option.some.inj H
  go_enter Tryz.func105,Tryz.ntmps105
  go_wp2
  go_ret
  exact ⟨by first|rfl|(simp;done)|(simp [*];done),by repeat (first|exact Drawn0.refl _|apply Drawn0.step)⟩
def sallyportref08_Value.l0:Nat→ByteArray→Int→Option (Bool)
 |0,_,_=>none
 |k+1,x0,x3=>if x3<(x0.size:Int) then (if 0≤x3 then (if (bt x0 x3)<33 then ((sallyportref08_blank.f (bt x0 x3)).bind fun t109=>(if t109=true then (sallyportref08_Value.l0 k x0 (wrap64 (x3+1))) else (some false))) else (if (bt x0 x3)>126 then ((sallyportref08_blank.f (bt x0 x3)).bind fun t110=>(if t110=true then (sallyportref08_Value.l0 k x0 (wrap64 (x3+1))) else (some false))) else (sallyportref08_Value.l0 k x0 (wrap64 (x3+1))))) else (none)) else (if (x0.size:Int)≤4096 then (if x0.toList=([]:List UInt8) then (some true) else (if 0<(x0.size:Int) then ((sallyportref08_blank.f (bt x0 0)).bind fun t111=>(if t111=true then (some false) else (if 0≤(wrap64 ((x0.size:Int) - 1)) then (if (wrap64 ((x0.size:Int) - 1))<(x0.size:Int) then ((sallyportref08_blank.f (bt x0 (wrap64 ((x0.size:Int) - 1)))).bind fun t112=>(some (!t112))) else (none)) else (none)))) else (none))) else (some false))
def sallyportref08_Value.f (k:Nat) (a0:ByteArray):Option (Bool):=sallyportref08_Value.l0 k a0 0
set_option maxHeartbeats 8000000 in
set_option maxRecDepth 100000 in
theorem sallyportref08_Value.calls (k:Nat) (a0:ByteArray) (r:Bool) (w:World) (h:sallyportref08_Value.f k a0=some r):
  Calls Tryz.prog 106 #[.string a0] w fun e w'=>e= .returned (.bool r)∧Drawn0 w w':=by
 have H:(sallyportref08_Value.l0 k a0 0)=some r:=h
 clear h
 have H':=Aside0.mk H
 clear H
 go_enter Tryz.func106,Tryz.ntmps106
 go_wp2
 go_loopg [3] k (fun kq v3 w'=> ∃ (x3_1:Int),v3= .int .i64 x3_1∧Aside0 (sallyportref08_Value.l0 kq a0 x3_1=some r)∧Aside0 (kq≤k)∧Drawn0 w w')
 case atStart=>exact ⟨(0),rfl,H',⟨Nat.le_refl _⟩,by repeat (first|exact Drawn0.refl _|apply Drawn0.step)⟩
 case round=>
  clear H'
  try clear c1
  obtain ⟨x3_1,rfl,HA,HK1,⟨m1,rfl⟩⟩:=hrel
  cases gk with
  |zero=>exact absurd HA.out (by simp [sallyportref08_Value.l0])
  |succ k1=>
   have H:=HA.out
   clear HA
   simp only [sallyportref08_Value.l0] at H
   by_cases c2:x3_1<(a0.size:Int)
   ·rw [if_pos c2] at H
    have c2b0:=decide_eq_true c2
    clear c2
    by_cases c3:0≤x3_1
    ·rw [if_pos c3] at H
     have c3b0:=decide_eq_true c3
     clear c3
     by_cases c5:(bt a0 x3_1)<33
     ·rw [if_pos c5] at H
      have c5b0:=decide_eq_true c5
      clear c5
      replace H:=Option.bind_eq_some_iff.mp H
      obtain ⟨t109,A70,H⟩:=H
      have A7:=Aside0.mk A70
      clear A70
      by_cases c8:t109=true
      ·subst c8
       have H1:(sallyportref08_Value.l0 k1 a0 (wrap64 (x3_1+1)))=some r:=by rw [if_pos rfl] at H;exact H
       clear H
       have H:=H1
       clear H1
       have H':=Aside0.mk H
       clear H
       have p4:0≤(x3_1:Int):=of_decide_eq_true (by assumption)
       have q4:x3_1<(a0.size:Int):=of_decide_eq_true (by assumption)
       have hx4:=bt_at a0 x3_1
       replace p4:=eq_true p4
       replace q4:=eq_true q4
       have p6:0≤(x3_1:Int):=of_decide_eq_true (by assumption)
       have q6:x3_1<(a0.size:Int):=of_decide_eq_true (by assumption)
       have hx6:=bt_at a0 x3_1
       replace p6:=eq_true p6
       replace q6:=eq_true q6
       go_wp2_with (first|(go_at_call 105;(with_reducible refine (sallyportref08_blank.calls (bt a0 x3_1) true _ A7.out).mono ?_);rintro e w' ⟨rfl,⟨nd,rfl⟩⟩))
       go_roundg k1
       case measure=>have:=HK1.out;omega
       case rel=>exact ⟨(wrap64 (x3_1+1)),rfl,H',⟨by have:=HK1.out;omega⟩,by repeat (first|exact Drawn0.refl _|apply Drawn0.step)⟩
      ·replace c8:=Bool.eq_false_iff.mpr c8
       subst c8
       have H1:(some false)=some r:=by rw [if_neg (show ¬ (false=true) by decide)] at H;exact H
       clear H
       have H:=H1
       clear H1
       obtain rfl:=Option.some.inj H
       have p4:0≤(x3_1:Int):=of_decide_eq_true (by assumption)
       have q4:x3_1<(a0.size:Int):=of_decide_eq_true (by assumption)
       have hx4:=bt_at a0 x3_1
       replace p4:=eq_true p4
       replace q4:=eq_true q4
       have p6:0≤(x3_1:Int):=of_decide_eq_true (by assumption)
       have q6:x3_1<(a0.size:Int):=of_decide_eq_true (by assumption)
       have hx6:=bt_at a0 x3_1
       replace p6:=eq_true p6
       replace q6:=eq_true q6
       go_wp2_with (first|(go_at_call 105;(with_reducible refine (sallyportref08_blank.calls (bt a0 x3_1) false _ A7.out).mono ?_);rintro e w' ⟨rfl,⟨nd,rfl⟩⟩))
       go_ret
       exact ⟨by first|rfl|(simp;done)|(simp [*];done),by repeat (first|exact Drawn0.refl _|apply Drawn0.step)⟩
     ·rw [if_neg c5] at H
      have c5b0:=decide_eq_false c5
      clear c5
      by_cases c10:(bt a0 x3_1)>126
      ·rw [if_pos c10] at H
       have c10b0:=decide_eq_true c10
       clear c10
       replace H:=Option.bind_eq_some_iff.mp H
       obtain ⟨t110,A120,H⟩:=H
       have A12:=Aside0.mk A120
       clear A120
       by_cases c13:t110=true
       ·subst c13
        have H1:(sallyportref08_Value.l0 k1 a0 (wrap64 (x3_1+1)))=some r:=by rw [if_pos rfl] at H;exact H
        clear H
        have H:=H1
        clear H1
        have H':=Aside0.mk H
        clear H
        have p4:0≤(x3_1:Int):=of_decide_eq_true (by assumption)
        have q4:x3_1<(a0.size:Int):=of_decide_eq_true (by assumption)
        have hx4:=bt_at a0 x3_1
        replace p4:=eq_true p4
        replace q4:=eq_true q4
        have p9:0≤(x3_1:Int):=of_decide_eq_true (by assumption)
        have q9:x3_1<(a0.size:Int):=of_decide_eq_true (by assumption)
        have hx9:=bt_at a0 x3_1
        replace p9:=eq_true p9
        replace q9:=eq_true q9
        have p11:0≤(x3_1:Int):=of_decide_eq_true (by assumption)
        have q11:x3_1<(a0.size:Int):=of_decide_eq_true (by assumption)
        have hx11:=bt_at a0 x3_1
        replace p11:=eq_true p11
        replace q11:=eq_true q11
        go_wp2_with (first|(go_at_call 105;(with_reducible refine (sallyportref08_blank.calls (bt a0 x3_1) true _ A12.out).mono ?_);rintro e w' ⟨rfl,⟨nd,rfl⟩⟩))
        go_roundg k1
        case measure=>have:=HK1.out;omega
        case rel=>exact ⟨(wrap64 (x3_1+1)),rfl,H',⟨by have:=HK1.out;omega⟩,by repeat (first|exact Drawn0.refl _|apply Drawn0.step)⟩
       ·replace c13:=Bool.eq_false_iff.mpr c13
        subst c13
        have H1:(some false)=some r:=by rw [if_neg (show ¬ (false=true) by decide)] at H;exact H
        clear H
        have H:=H1
        clear H1
        obtain rfl:=Option.some.inj H
        have p4:0≤(x3_1:Int):=of_decide_eq_true (by assumption)
        have q4:x3_1<(a0.size:Int):=of_decide_eq_true (by assumption)
        have hx4:=bt_at a0 x3_1
        replace p4:=eq_true p4
        replace q4:=eq_true q4
        have p9:0≤(x3_1:Int):=of_decide_eq_true (by assumption)
        have q9:x3_1<(a0.size:Int):=of_decide_eq_true (by assumption)
        have hx9:=bt_at a0 x3_1
        replace p9:=eq_true p9
        replace q9:=eq_true q9
        have p11:0≤(x3_1:Int):=of_decide_eq_true (by assumption)
        have q11:x3_1<(a0.size:Int):=of_decide_eq_true (by assumption)
        have hx11:=bt_at a0 x3_1
        replace p11:=eq_true p11
        replace q11:=eq_true q11
        go_wp2_with (first|(go_at_call 105;(with_reducible refine (sallyportref08_blank.calls (bt a0 x3_1) false _ A12.out).mono ?_);rintro e w' ⟨rfl,⟨nd,rfl⟩⟩))
        go_ret
        exact ⟨by first|rfl|(simp;done)|(simp [*];done),by repeat (first|exact Drawn0.refl _|apply Drawn0.step)⟩
      ·rw [if_neg c10] at H
       have c10b0:=decide_eq_false c10
       clear c10
       have H':=Aside0.mk H
       clear H
       have p4:0≤(x3_1:Int):=of_decide_eq_true (by assumption)
       have q4:x3_1<(a0.size:Int):=of_decide_eq_true (by assumption)
       have hx4:=bt_at a0 x3_1
       replace p4:=eq_true p4
       replace q4:=eq_true q4
       have p9:0≤(x3_1:Int):=of_decide_eq_true (by assumption)
       have q9:x3_1<(a0.size:Int):=of_decide_eq_true (by assumption)
       have hx9:=bt_at a0 x3_1
       replace p9:=eq_true p9
       replace q9:=eq_true q9
       go_wp2
       go_roundg k1
       case measure=>have:=HK1.out;omega
       case rel=>exact ⟨(wrap64 (x3_1+1)),rfl,H',⟨by have:=HK1.out;omega⟩,by repeat (first|exact Drawn0.refl _|apply Drawn0.step)⟩
    ·rw [if_neg c3] at H
     exact absurd H (by simp)
   ·rw [if_neg c2] at H
    have c2b0:=decide_eq_false c2
    clear c2
    by_cases c14:(a0.size:Int)≤4096
    ·rw [if_pos c14] at H
     have c14b0:=decide_eq_true c14
     have c14b1:decide (a0.size≤4096)=true:=decide_eq_true (by omega)
     clear c14
     by_cases c15:a0.toList=([]:List UInt8)
     ·rw [if_pos c15] at H
      have c15b0:=beq_iff_eq.mpr c15
      have c15b6:a0.toList.isEmpty=true:=by rw [List.isEmpty_iff];exact c15
      have c15b1:=bne_eq_false_iff_eq.mpr c15
      clear c15
      obtain rfl:=Option.some.inj H
      go_wp2
      go_ret
      exact ⟨by first|rfl|(simp;done)|(simp [*];done),by repeat (first|exact Drawn0.refl _|apply Drawn0.step)⟩
     ·rw [if_neg c15] at H
      have c15b0:=beq_eq_false_iff_ne.mpr c15
      have c15b6:a0.toList.isEmpty=false:=by rw [← Bool.not_eq_true,List.isEmpty_iff];exact c15
      have c15b1:=bne_iff_ne.mpr c15
      by_cases c16:0<(a0.size:Int)
      ·rw [if_pos c16] at H
       have c16b0:=decide_eq_true c16
       have c16b1:decide (0<a0.size)=true:=decide_eq_true (by omega)
       clear c16
       replace H:=Option.bind_eq_some_iff.mp H
       obtain ⟨t111,A180,H⟩:=H
       have A18:=Aside0.mk A180
       clear A180
       by_cases c19:t111=true
       ·subst c19
        have H1:(some false)=some r:=by rw [if_pos rfl] at H;exact H
        clear H
        have H:=H1
        clear H1
        obtain rfl:=Option.some.inj H
        have p17:0≤(0:Int):=(by omega)
        have q17:0<a0.size:=(by have:(0:Int)<(a0.size:Int):=of_decide_eq_true (by assumption);omega)
        have hx17: ∀ h:0<a0.size,((a0[0]'h).toNat:Int)=bt a0 0:=bt_at a0 0
        clear p17
        have qi17:(0<(a0.size:Int))=True:=eq_true (of_decide_eq_true (by assumption))
        replace q17:=eq_true q17
        go_wp2_with (first|(go_at_call 105;(with_reducible refine (sallyportref08_blank.calls (bt a0 0) true _ A18.out).mono ?_);rintro e w' ⟨rfl,⟨nd,rfl⟩⟩))
        go_ret
        exact ⟨by first|rfl|(simp;done)|(simp [*];done),by repeat (first|exact Drawn0.refl _|apply Drawn0.step)⟩
       ·replace c19:=Bool.eq_false_iff.mpr c19
        subst c19
        have H1:(if 0≤(wrap64 ((a0.size:Int) - 1)) then (if (wrap64 ((a0.size:Int) - 1))<(a0.size:Int) then ((sallyportref08_blank.f (bt a0 (wrap64 ((a0.size:Int) - 1)))).bind fun t112=>(some (!t112))) else (none)) else (none))=some r:=by rw [if_neg (show ¬ (false=true) by decide)] at H;exact H
        clear H
        have H:=H1
        clear H1
        obtain ⟨ji20,hji20⟩: ∃ j_:Int,(wrap64 ((a0.size:Int) - 1))=j_:=⟨_,rfl⟩
        replace H:(if 0≤(ji20) then (if (ji20)<(a0.size:Int) then ((sallyportref08_blank.f (bt a0 (ji20))).bind fun t112=>(some (!t112))) else (none)) else (none))=some r:=by first|(rw [hji20] at H;exact H)|(simp only [hji20] at H ⊢;exact H)
        (try rw [hji20] at A18)
        have hji20w:(IntKind.i64.wrap ((a0.size:Int) - 1))=ji20:=(i64_w _).trans hji20
        by_cases c21:0≤(ji20)
        ·rw [if_pos c21] at H
         have c21b0:=decide_eq_true c21
         clear c21
         by_cases c22:(ji20)<(a0.size:Int)
         ·rw [if_pos c22] at H
          have c22b0:=decide_eq_true c22
          clear c22
          replace H:=Option.bind_eq_some_iff.mp H
          obtain ⟨t112,A240,H⟩:=H
          have A24:=Aside0.mk A240
          clear A240
          obtain rfl:=Option.some.inj H
          have p17:0≤(0:Int):=(by omega)
          have q17:0<a0.size:=(by have:(0:Int)<(a0.size:Int):=of_decide_eq_true (by assumption);omega)
          have hx17: ∀ h:0<a0.size,((a0[0]'h).toNat:Int)=bt a0 0:=bt_at a0 0
          clear p17
          have qi17:(0<(a0.size:Int))=True:=eq_true (of_decide_eq_true (by assumption))
          replace q17:=eq_true q17
          go_wp2_with (first|(go_at_call 105;(with_reducible refine (sallyportref08_blank.calls (bt a0 0) false _ A18.out).mono ?_);rintro e w' ⟨rfl,⟨nd,rfl⟩⟩;have p23:0≤((ji20):Int):=of_decide_eq_true (by assumption);have q23:(ji20)<(a0.size:Int):=of_decide_eq_true (by assumption);have hx23:=bt_at a0 (ji20);replace p23:=eq_true p23;replace q23:=eq_true q23)|(go_at_call 105;(with_reducible refine (sallyportref08_blank.calls (bt a0 (ji20)) t112 _ A24.out).mono ?_);rintro e w' ⟨rfl,⟨nd,rfl⟩⟩))
          go_ret
          exact ⟨by first|rfl|(simp;done)|(simp only [← hji20]<;>(first|rfl|simp))|(simp [*];done),by repeat (first|exact Drawn0.refl _|apply Drawn0.step)⟩
         ·rw [if_neg c22] at H
          exact absurd H (by simp)
        ·rw [if_neg c21] at H
         exact absurd H (by simp)
      ·rw [if_neg c16] at H
       exact absurd H (by simp)
    ·rw [if_neg c14] at H
     have c14b0:=decide_eq_false c14
     have c14b1:decide (a0.size≤4096)=false:=decide_eq_false (by omega)
     clear c14
     obtain rfl:=Option.some.inj H
     go_wp2
     go_ret
     exact ⟨by first|rfl|(simp;done)|(simp [*];done),by repeat (first|exact Drawn0.refl _|apply Drawn0.step)⟩
def sallyportref08_plain.l0:Nat→ByteArray→Int→Int→Int→Option (Bool)
 |0,_,_,_,_=>none
 |k+1,x0,x1,x2,x7=>if x7<(x0.size:Int) then (if 0≤x7 then (if (bt x0 x7)<x1 then (some false) else (if (bt x0 x7)>126 then (some false) else (sallyportref08_plain.l0 k x0 x1 x2 (wrap64 (x7+1))))) else (none)) else (some (decide ((x0.size:Int)≤x2)))
def sallyportref08_plain.f (k:Nat) (a0:ByteArray) (a1:Int) (a2:Int):Option (Bool):=sallyportref08_plain.l0 k a0 a1 a2 0
set_option maxHeartbeats 8000000 in
set_option maxRecDepth 100000 in
theorem sallyportref08_plain.calls (k:Nat) (a0:ByteArray) (a1:Int) (a2:Int) (r:Bool) (w:World) (h:sallyportref08_plain.f k a0 a1 a2=some r):
  Calls Tryz.prog 66 #[.string a0,.int .u8 a1,.int .i64 a2] w fun e w'=>e= .returned (.bool r)∧Drawn0 w w':=by
 have H:(sallyportref08_plain.l0 k a0 a1 a2 0)=some r:=h
 clear h
 have H':=Aside0.mk H
 clear H
 go_enter Tryz.func66,Tryz.ntmps66
 go_wp2
 go_loopg [7] k (fun kq v7 w'=> ∃ (x7_1:Int),v7= .int .i64 x7_1∧Aside0 (sallyportref08_plain.l0 kq a0 a1 a2 x7_1=some r)∧Aside0 (kq≤k)∧Drawn0 w w')
 case atStart=>exact ⟨(0),rfl,H',⟨Nat.le_refl _⟩,by repeat (first|exact Drawn0.refl _|apply Drawn0.step)⟩
 case round=>
  clear H'
  try clear p2
  obtain ⟨x7_1,rfl,HA,HK1,⟨m1,rfl⟩⟩:=hrel
  cases gk with
  |zero=>exact absurd HA.out (by simp [sallyportref08_plain.l0])
  |succ k1=>
   have H:=HA.out
   clear HA
   simp only [sallyportref08_plain.l0] at H
   by_cases c4:x7_1<(a0.size:Int)
   ·rw [if_pos c4] at H
    have c4b0:=decide_eq_true c4
    clear c4
    by_cases c5:0≤x7_1
    ·rw [if_pos c5] at H
     have c5b0:=decide_eq_true c5
     clear c5
     by_cases c7:(bt a0 x7_1)<a1
     ·rw [if_pos c7] at H
      have c7b0:=decide_eq_true c7
      clear c7
      obtain rfl:=Option.some.inj H
      have p6:0≤(x7_1:Int):=of_decide_eq_true (by assumption)
      have q6:x7_1<(a0.size:Int):=of_decide_eq_true (by assumption)
      have hx6:=bt_at a0 x7_1
      replace p6:=eq_true p6
      replace q6:=eq_true q6
      go_wp2
      go_ret
      exact ⟨by first|rfl|(simp;done)|(simp [*];done),by repeat (first|exact Drawn0.refl _|apply Drawn0.step)⟩
     ·rw [if_neg c7] at H
      have c7b0:=decide_eq_false c7
      clear c7
      by_cases c9:(bt a0 x7_1)>126
      ·rw [if_pos c9] at H
       have c9b0:=decide_eq_true c9
       clear c9
       obtain rfl:=Option.some.inj H
       have p6:0≤(x7_1:Int):=of_decide_eq_true (by assumption)
       have q6:x7_1<(a0.size:Int):=of_decide_eq_true (by assumption)
       have hx6:=bt_at a0 x7_1
       replace p6:=eq_true p6
       replace q6:=eq_true q6
       have p8:0≤(x7_1:Int):=of_decide_eq_true (by assumption)
       have q8:x7_1<(a0.size:Int):=of_decide_eq_true (by assumption)
       have hx8:=bt_at a0 x7_1
       replace p8:=eq_true p8
       replace q8:=eq_true q8
       go_wp2
       go_ret
       exact ⟨by first|rfl|(simp;done)|(simp [*];done),by repeat (first|exact Drawn0.refl _|apply Drawn0.step)⟩
      ·rw [if_neg c9] at H
       have c9b0:=decide_eq_false c9
       clear c9
       have H':=Aside0.mk H
       clear H
       have p6:0≤(x7_1:Int):=of_decide_eq_true (by assumption)
       have q6:x7_1<(a0.size:Int):=of_decide_eq_true (by assumption)
       have hx6:=bt_at a0 x7_1
       replace p6:=eq_true p6
       replace q6:=eq_true q6
       have p8:0≤(x7_1:Int):=of_decide_eq_true (by assumption)
       have q8:x7_1<(a0.size:Int):=of_decide_eq_true (by assumption)
       have hx8:=bt_at a0 x7_1
       replace p8:=eq_true p8
       replace q8:=eq_true q8
       go_wp2
       go_roundg k1
       case measure=>have:=HK1.out;omega
       case rel=>exact ⟨(wrap64 (x7_1+1)),rfl,H',⟨by have:=HK1.out;omega⟩,by repeat (first|exact Drawn0.refl _|apply Drawn0.step)⟩
    ·rw [if_neg c5] at H
     exact absurd H (by simp)
   ·rw [if_neg c4] at H
    have c4b0:=decide_eq_false c4
    clear c4
    obtain rfl:=Option.some.inj H
    go_wp2
    go_ret
    exact ⟨by first|rfl|(simp;done)|(simp [*];done),by repeat (first|exact Drawn0.refl _|apply Drawn0.step)⟩
def sallyportbase_Begins.f (a0:ByteArray) (a1:ByteArray):Option (Bool):=if (a0.size:Int)≥(a1.size:Int) then (if 0≤(a1.size:Int) then (if (a1.size:Int)≤(a0.size:Int) then (some ((a0.extract 0 ((a1.size:Int):Int).toNat).toList==a1.toList)) else (none)) else (none)) else (some false)
set_option maxHeartbeats 8000000 in
set_option maxRecDepth 100000 in
theorem sallyportbase_Begins.calls (a0:ByteArray) (a1:ByteArray) (r:Bool) (w:World) (h:sallyportbase_Begins.f a0 a1=some r):
  Calls Tryz.prog 27 #[.string a0,.string a1] w fun e w'=>e= .returned (.bool r)∧Drawn0 w w':=by
 have H:(if (a0.size:Int)≥(a1.size:Int) then (if 0≤(a1.size:Int) then (if (a1.size:Int)≤(a0.size:Int) then (some ((a0.extract 0 ((a1.size:Int):Int).toNat).toList==a1.toList)) else (none)) else (none)) else (some false))=some r:=h
 clear h
 by_cases c3:(a0.size:Int)≥(a1.size:Int)
 ·rw [if_pos c3] at H
  have c3b0:=decide_eq_true c3
  have c3b1:decide (a1.size≤a0.size)=true:=decide_eq_true (Int.ofNat_le.mp c3)
  clear c3
  by_cases c4:0≤(a1.size:Int)
  ·rw [if_pos c4] at H
   have c4b0:=eq_true c4
   have c4b1:=decide_eq_true c4
   clear c4
   by_cases c5:(a1.size:Int)≤(a0.size:Int)
   ·rw [if_pos c5] at H
    have c5b0:=eq_true c5
    have c5b1:=decide_eq_true c5
    clear c5
    obtain rfl:=Option.some.inj H
    go_enter Tryz.func27,Tryz.ntmps27
    go_wp2
    go_ret
    exact ⟨by first|rfl|(simp;done)|(simp [*];done),by repeat (first|exact Drawn0.refl _|apply Drawn0.step)⟩
   ·rw [if_neg c5] at H
    exact absurd H (by simp)
  ·rw [if_neg c4] at H
   exact absurd H (by simp)
 ·rw [if_neg c3] at H
  have c3b0:=decide_eq_false c3
  have c3b1:decide (a1.size≤a0.size)=false:=decide_eq_false (fun h=>c3 (Int.ofNat_le.mpr h))
  clear c3
  obtain rfl:=Option.some.inj H
  go_enter Tryz.func27,Tryz.ntmps27
  go_wp2
  go_ret
  exact ⟨by first|rfl|(simp;done)|(simp [*];done),by repeat (first|exact Drawn0.refl _|apply Drawn0.step)⟩
end Go.Proofs.YtgmpdjjoefkndaaGreatDoor.XZ

namespace Go.Proofs.YtgmpdjjoefkndaaGreatDoor.XZ
open Go.Proofs.YtgmpdjjoefkndaaGreatDoor.XK Go.Proofs.YtgmpdjjoefkndaaGreatDoor.XA Go.Proofs.YtgmpdjjoefkndaaGreatDoor.XD
open Go.RowKit Go.Proofs.YtgmpdjjoefkndaaGreatDoorW.PrintWords Go.Proofs.YtgmpdjjoefkndaaGreatDoorW.PrintLast Go.Proofs.YtgmpdjjoefkndaaGreatDoorW.PrintMore
attribute [local go_sem] max2_int min2_int max_two min_two max_three min_three max_four min_four
set_option linter.unusedVariables false
set_option linter.unusedSimpArgs false
end Go.Proofs.YtgmpdjjoefkndaaGreatDoor.XZ

namespace Go.Proofs.YtgmpdjjoefkndaaGreatDoor.E
open Go.RowKit Go.Proofs.YtgmpdjjoefkndaaGreatDoorW.PrintWords

theorem wrap64_id (x:Int) (h0: -9223372036854775808≤x) (h1:x≤9223372036854775807):wrap64 x=x:=by
 unfold wrap64;omega
end Go.Proofs.YtgmpdjjoefkndaaGreatDoor.E

namespace Go.Proofs.YtgmpdjjoefkndaaGreatDoor.E
open Go.RowKit Go.Proofs.YtgmpdjjoefkndaaGreatDoorW.PrintWords Go.Proofs.YtgmpdjjoefkndaaGreatDoorW.PrintLast Go.Proofs.YtgmpdjjoefkndaaGreatDoor.XK Go.Proofs.YtgmpdjjoefkndaaGreatDoor.XA Go.Proofs.YtgmpdjjoefkndaaGreatDoor.XD Go.Proofs.YtgmpdjjoefkndaaGreatDoor.XZ
set_option linter.unusedVariables false
set_option linter.unusedSimpArgs false
theorem find_loop (s sub:ByteArray) (hs:s.size≤281474976710656) (hsub:sub.size≤281474976710656): ∀ (m k i:Nat),i+m=s.size+1→m<k→Lib.NoOcc s.data.toList sub.data.toList i→sallyportbase_Find.l0 k s sub (i:Int)=some (Lib.index s.data.toList sub.data.toList):=by
 have hl:s.data.toList.length=s.size:=(Lib.size_eq s).symm
 have hl2:sub.data.toList.length=sub.size:=(Lib.size_eq sub).symm
 intro m
 induction m with
 |zero=>
  intro k i hi hk hn
  obtain ⟨k,rfl⟩: ∃ j,k=j+1:=⟨k - 1,by omega⟩
  simp only [sallyportbase_Find.l0]
  rw [wrap64_id _ (by omega) (by omega),if_neg (by omega),Lib.index_none (fun j hj=>hn j (by omega))]
 |succ m ih=>
  intro k i hi hk hn
  obtain ⟨k,rfl⟩: ∃ j,k=j+1:=⟨k - 1,by omega⟩
  simp only [sallyportbase_Find.l0]
  rw [wrap64_id ((i:Int)+(sub.size:Int)) (by omega) (by omega)]
  by_cases hr:i+sub.size≤s.size
  ·rw [if_pos (by omega),if_pos (by omega),if_pos (by omega)]
   have ho:=Lib.occAt_iff_take s.data.toList sub.data.toList i (by omega)
   have he:(s.extract ((i:Int)).toNat (((i:Int)+(sub.size:Int))).toNat).toList=((s.data.toList.drop i).take sub.data.toList.length):=by
    rw [ByteArray.toList_eq,ByteArray.data_extract,Array.toList_extract,show ((i:Int)).toNat=i by omega,show ((i:Int)+(sub.size:Int)).toNat=i+sub.size by omega,hl2]
    simp [List.extract]
   rw [he,ByteArray.toList_eq sub]
   by_cases hq:(s.data.toList.drop i).take sub.data.toList.length=sub.data.toList
   ·rw [if_pos hq]
    rw [Lib.index_first (by omega) (by rw [ho,beq_iff_eq];exact hq) (fun j hj=>hn j hj)]
   ·rw [if_neg hq,wrap64_id _ (by omega) (by omega)]
    have:=ih k (i+1) (by omega) (by omega) (fun j hj=>by
     by_cases hji:j<i
     ·exact hn j hji
     ·have:j=i:=by omega
      subst this
      rw [ho,beq_eq_false_iff_ne];exact hq)
    exact this
  ·rw [if_neg (by omega),Lib.index_none (fun j hj=>by
    by_cases hji:j<i
    ·exact hn j hji
    ·cases hoc:Lib.occAt s.data.toList sub.data.toList j
     ·rfl
     ·rcases Lib.occAt_room hoc with h|h
      ·omega
      ·rw [h] at hl2
       have:sub.size=0:=by simpa using hl2.symm
       omega)]
theorem find_f (s sub:ByteArray) (hs:s.size≤281474976710656) (hsub:sub.size≤281474976710656) (k:Nat) (hk:s.size+1<k):sallyportbase_Find.f k s sub=some (Lib.index s.data.toList sub.data.toList):=by
 unfold sallyportbase_Find.f
 exact find_loop s sub hs hsub (s.size+1) k 0 (by omega) hk (Lib.NoOcc.zero _ _)
theorem bt_at (s:ByteArray) (i:Nat) (h:i<s.data.toList.length):bt s (i:Int)=((s.data.toList[i]).toNat:Int):=by
 have hlt':i<s.size:=by rw [Lib.size_eq];exact h
 first|(unfold bt;rw [Int.toNat_natCast,dif_pos hlt'];rfl)|(unfold bt;simp [hlt'];rfl)
theorem plain_loop (s:ByteArray) (hs:s.size≤281474976710656) (least most:Nat): ∀ (m k i:Nat),i+m=s.size→m<k→sallyportref08_plain.l0 k s (least:Int) (most:Int) (i:Int)=some ((s.data.toList.drop i).all (fun c=>decide (least≤c.toNat) && decide (c.toNat≤126)) && decide (s.data.toList.length≤most)):=by
 intro m
 induction m with
 |zero=>
  intro k i hi hk
  obtain ⟨k,rfl⟩: ∃ j,k=j+1:=⟨k - 1,by omega⟩
  have hl:s.data.toList.length=s.size:=(Lib.size_eq s).symm
  simp only [sallyportref08_plain.l0]
  rw [if_neg (by omega),List.drop_of_length_le (by omega),hl]
  simp only [List.all_nil,Bool.true_and]
  congr 1
  rw [Bool.eq_iff_iff,decide_eq_true_eq,decide_eq_true_eq];omega
 |succ m ih=>
  intro k i hi hk
  obtain ⟨k,rfl⟩: ∃ j,k=j+1:=⟨k - 1,by omega⟩
  have hl:s.data.toList.length=s.size:=(Lib.size_eq s).symm
  have hlt:i<s.data.toList.length:=by omega
  simp only [sallyportref08_plain.l0]
  rw [if_pos (by omega),if_pos (by omega),bt_at s i hlt,List.drop_eq_getElem_cons hlt,List.all_cons]
  generalize (s.data.toList[i]).toNat=c
  by_cases h1:c<least
  ·rw [if_pos (by omega),decide_eq_false (show ¬ least≤c by omega)];rfl
  ·by_cases h2:126<c
   ·rw [if_neg (by omega),if_pos (by omega),decide_eq_false (show ¬ c≤126 by omega),Bool.and_false];rfl
   ·rw [if_neg (by omega),if_neg (by omega),wrap64_nat i s.size (by omega) hs,ih k (i+1) (by omega) (by omega),decide_eq_true (show least≤c by omega),decide_eq_true (show c≤126 by omega)];rfl
theorem plain_f (s:ByteArray) (hs:s.size≤281474976710656) (least most k:Nat) (hk:s.size<k):sallyportref08_plain.f k s (least:Int) (most:Int)=some (Hd.plain s.data.toList least most):=by
 unfold sallyportref08_plain.f
 have:=plain_loop s hs least most s.size k 0 (by omega) hk
 rw [List.drop_zero] at this
 exact this
def signL:List UInt8:=[33,35,36,37,38,39,42,43,45,46,94,95,96,124,126]
theorem sign_iff (c:UInt8):Fd.sign c=true↔((97≤c.toNat∧c.toNat≤122)∨(65≤c.toNat∧c.toNat≤90)∨(48≤c.toNat∧c.toNat≤57)∨0≤Lib.index signL [c]):=by
 have hh: ∀ n:Fin 256,Fd.sign (UInt8.ofNat n.1)=true↔((97≤(UInt8.ofNat n.1).toNat∧(UInt8.ofNat n.1).toNat≤122)∨(65≤(UInt8.ofNat n.1).toNat∧(UInt8.ofNat n.1).toNat≤90)∨(48≤(UInt8.ofNat n.1).toNat∧(UInt8.ofNat n.1).toNat≤57)∨0≤Lib.index signL [UInt8.ofNat n.1]):=by decide+kernel
 have:=hh ⟨c.toNat,c.toNat_lt⟩
 simp only [UInt8.ofNat_toNat] at this
 exact this
theorem one_at (s:ByteArray) (i:Nat) (h:i<s.data.toList.length):s.extract i (i+1)=⟨#[s.data.toList[i]'h]⟩:=by
 rw [Lib.extract_eq,List.drop_eq_getElem_cons h,show i+1 - i=0+1 by omega,List.take_succ_cons,List.take_zero]
theorem rtoken_loop (s:ByteArray) (hs:s.size≤281474976710656): ∀ (m k i:Nat),i+m=s.size→m+20<k→sallyportref08_Token.l0 k s (i:Int)=some ((s.data.toList.drop i).all Fd.sign && (!s.data.toList.isEmpty && decide (s.data.toList.length≤64))):=by
 intro m
 induction m with
 |zero=>
  intro k i hi hk
  obtain ⟨k,rfl⟩: ∃ j,k=j+1:=⟨k - 1,by omega⟩
  have hl:s.data.toList.length=s.size:=(Lib.size_eq s).symm
  simp only [sallyportref08_Token.l0]
  rw [if_neg (by omega),List.drop_of_length_le (by omega),hl]
  cases hd:s.data.toList with
  |nil=>
   have:s.size=0:=by rw [← hl,hd];rfl
   simp [this]
  |cons x r=>
   have:0<s.size:=by rw [← hl,hd];simp
   simp only [List.all_nil,Bool.true_and,List.isEmpty_cons,Bool.not_false]
   first
    |(rw [if_pos (by omega)];congr 1;rw [Bool.eq_iff_iff,decide_eq_true_eq,decide_eq_true_eq];omega)
    |(congr 1;rw [Bool.eq_iff_iff];simp;omega)
 |succ m ih=>
  intro k i hi hk
  obtain ⟨k,rfl⟩: ∃ j,k=j+1:=⟨k - 1,by omega⟩
  have hl:s.data.toList.length=s.size:=(Lib.size_eq s).symm
  have hlt:i<s.data.toList.length:=by omega
  have hw:=wrap64_nat i s.size (by omega) hs
  have hx:s.extract ((i:Int)).toNat ((((i+1:Nat):Int))).toNat=⟨#[s.data.toList[i]'hlt]⟩:=by
   rw [show ((i:Int)).toNat=i by omega,show (((i+1:Nat):Int)).toNat=i+1 by omega];exact one_at s i hlt
  have hf:sallyportbase_Find.f k (⟨#[33,35,36,37,38,39,42,43,45,46,94,95,96,124,126]⟩:ByteArray) ⟨#[s.data.toList[i]'hlt]⟩=some (Lib.index signL [s.data.toList[i]'hlt]):=find_f _ _ (by decide) (by show 1≤281474976710656;omega) k (by show 15+1<k;omega)
  have hR:=ih k (i+1) (by omega) (by omega)
  simp only [sallyportref08_Token.l0]
  rw [if_pos (by omega),if_pos (by omega),bt_at s i hlt,hw,hx,hf,hR,List.drop_eq_getElem_cons hlt,List.all_cons,Bool.and_assoc]
  have hsg:=sign_iff (s.data.toList[i]'hlt)
  generalize Lib.index signL [s.data.toList[i]'hlt]=v at hsg
  generalize Fd.sign (s.data.toList[i]'hlt)=b at hsg ⊢
  generalize (s.data.toList[i]'hlt).toNat=c at hsg ⊢
  generalize ((List.drop (i+1) s.data.toList).all Fd.sign && (!s.data.toList.isEmpty && decide (s.data.toList.length≤64)))=R
  have hii:(i:Int)≤((i+1:Nat):Int):=by omega
  have hij:((i+1:Nat):Int)≤(s.size:Int):=by omega
  simp only [hii,hij,if_true,Option.bind_some]
  cases b
  ·have h:=fun h=>Bool.false_ne_true (hsg.2 h)
   simp only [Bool.false_and]
   repeat' split
   all_goals first|rfl|(exfalso;apply h;omega)
  ·have h:=hsg.1 rfl
   simp only [Bool.true_and]
   repeat' split
   all_goals first|rfl|(exfalso;omega)
theorem rtoken_f (s:ByteArray) (hs:s.size≤281474976710656) (k:Nat) (hk:s.size+20<k):sallyportref08_Token.f k s=some (tokB s):=by
 unfold sallyportref08_Token.f
 have:=rtoken_loop s hs s.size k 0 (by omega) hk
 rw [List.drop_zero] at this
 exact this
def blk (c:UInt8):Bool:=c==32||c==9
theorem trimB_same (l:List UInt8):(Fd.trimB l==l)=((l.head?.map blk).getD false==false && (l.getLast?.map blk).getD false==false):=by
 have hb: ∀ c:UInt8,([32,9]:List UInt8).contains c=blk c:=fun c=>by unfold blk;simp only [List.contains_cons,List.contains_nil,Bool.or_false]
 have hp:(fun c:UInt8=>([32,9]:List UInt8).contains c)=blk:=funext hb
 cases h:l.reverse with
 |nil=>
  have:l=[]:=by simpa using h
  subst this;rfl
 |cons y t=>
  have hl:l=t.reverse++[y]:=by
   have:=congrArg List.reverse h
   simpa using this
  have hlast:l.getLast? =some y:=by rw [hl];simp
  rw [hlast]
  have hlen:l.length=t.length+1:=by rw [hl];simp
  unfold Fd.trimB Lib.trimS Lib.trimLeftS Lib.trimRightS
  rw [hp,h]
  have hdw: ∀ m:List UInt8,(m.dropWhile blk).length≤m.length:=fun m=>(List.dropWhile_sublist _).length_le
  simp only [Option.map_some,Option.getD_some]
  cases hy:blk y
  ·rw [List.dropWhile_cons_of_neg (by rw [hy];exact Bool.false_ne_true)]
   have hrev:(y::t).reverse=l:=by rw [← h];simp
   rw [hrev]
   cases hc:l with
   |nil=>rw [hc] at hlen;simp at hlen
   |cons x r=>
    simp only [List.head?_cons,Option.map_some,Option.getD_some]
    cases hx:blk x
    ·rw [List.dropWhile_cons_of_neg (by rw [hx];exact Bool.false_ne_true)];simp
    ·rw [List.dropWhile_cons_of_pos hx]
     have:List.dropWhile blk r≠x::r:=fun e=>by
      have:=hdw r;rw [e,List.length_cons] at this;omega
     simp [this]
  ·rw [List.dropWhile_cons_of_pos hy]
   have h1:=hdw (List.dropWhile blk t).reverse
   have h2:=hdw t
   rw [List.length_reverse] at h1
   have:List.dropWhile blk (List.dropWhile blk t).reverse≠l:=fun e=>by rw [e] at h1;omega
   simp [this]
theorem blank_f (c:UInt8):sallyportref08_blank.f (c.toNat:Int)=some (blk c):=by
 have hh: ∀ n:Fin 256,sallyportref08_blank.f ((UInt8.ofNat n.1).toNat:Int)=some (blk (UInt8.ofNat n.1)):=by decide+kernel
 have:=hh ⟨c.toNat,c.toNat_lt⟩
 simp only [UInt8.ofNat_toNat] at this
 exact this
def vis (c:UInt8):Bool:=blk c||(decide (33≤c.toNat) && decide (c.toNat≤126))
def ends (l:List UInt8):Bool:=(l.head?.map blk).getD false==false && (l.getLast?.map blk).getD false==false
theorem vis_spc (c:UInt8):vis c=(decide (32≤(if c=9 then (32:UInt8) else c).toNat) && decide ((if c=9 then (32:UInt8) else c).toNat≤126)):=by
 have hh: ∀ n:Fin 256,vis (UInt8.ofNat n.1)=(decide (32≤(if UInt8.ofNat n.1=9 then (32:UInt8) else UInt8.ofNat n.1).toNat) && decide ((if UInt8.ofNat n.1=9 then (32:UInt8) else UInt8.ofNat n.1).toNat≤126)):=by decide+kernel
 have:=hh ⟨c.toNat,c.toNat_lt⟩
 simp only [UInt8.ofNat_toNat] at this
 exact this
theorem value_ends (l:List UInt8):Hd.value l=(l.all vis && (decide (l.length≤4096) && ends l)):=by
 unfold Hd.value Hd.plain Hd.spc
 rw [trimB_same,List.all_map,List.length_map,Bool.and_assoc]
 rw [show ((fun c:UInt8=>decide (32≤c.toNat) && decide (c.toNat≤126)) ∘ fun c=>if c=9 then 32 else c)=vis from funext fun c=>(vis_spc c).symm]
 rfl
theorem rvalue_loop (s:ByteArray) (hs:s.size≤281474976710656): ∀ (m k i:Nat),i+m=s.size→m<k→sallyportref08_Value.l0 k s (i:Int)=some ((s.data.toList.drop i).all vis && (decide (s.data.toList.length≤4096) && ends s.data.toList)):=by
 intro m
 induction m with
 |zero=>
  intro k i hi hk
  obtain ⟨k,rfl⟩: ∃ j,k=j+1:=⟨k - 1,by omega⟩
  have hl:s.data.toList.length=s.size:=(Lib.size_eq s).symm
  simp only [sallyportref08_Value.l0]
  rw [if_neg (by omega),List.drop_of_length_le (by omega),List.all_nil,Bool.true_and]
  by_cases h4:s.data.toList.length≤4096
  ·rw [if_pos (by omega),decide_eq_true h4,Bool.true_and,ByteArray.toList_eq]
   by_cases he:s.data.toList=[]
   ·rw [if_pos he,he];rfl
   ·rw [if_neg he]
    have hp:0<s.data.toList.length:=List.length_pos_iff.2 he
    have hb0:=bt_at s 0 hp
    have hb1:=bt_at s (s.data.toList.length - 1) (by omega)
    have hw:wrap64 ((s.size:Int) - 1)=((s.data.toList.length - 1:Nat):Int):=by rw [wrap64_id _ (by omega) (by omega)];omega
    rw [if_pos (by omega),hw,hb1,if_pos (by omega),if_pos (by omega)]
    rw [show (0:Int)=((0:Nat):Int) from rfl,hb0,blank_f,blank_f]
    simp only [Option.bind_some]
    unfold ends
    rw [List.head?_eq_getElem?,List.getLast?_eq_getElem?,List.getElem?_eq_getElem hp,List.getElem?_eq_getElem (by omega)]
    simp only [Option.map_some,Option.getD_some]
    generalize blk s.data.toList[0]=b
    generalize blk s.data.toList[s.data.toList.length - 1]=e
    cases b<;>cases e<;>rfl
  ·rw [if_neg (by omega),decide_eq_false h4];rfl
 |succ m ih=>
  intro k i hi hk
  obtain ⟨k,rfl⟩: ∃ j,k=j+1:=⟨k - 1,by omega⟩
  have hl:s.data.toList.length=s.size:=(Lib.size_eq s).symm
  have hlt:i<s.data.toList.length:=by omega
  have hw:=wrap64_nat i s.size (by omega) hs
  have hR:=ih k (i+1) (by omega) (by omega)
  simp only [sallyportref08_Value.l0]
  rw [if_pos (by omega),if_pos (by omega),bt_at s i hlt,hw,hR,List.drop_eq_getElem_cons hlt,List.all_cons,Bool.and_assoc,blank_f]
  simp only [Option.bind_some]
  unfold vis
  generalize blk (s.data.toList[i]'hlt)=b
  generalize (s.data.toList[i]'hlt).toNat=c
  generalize ((List.drop (i+1) s.data.toList).all _ && _)=R
  by_cases h1:c<33
  ·rw [if_pos (by omega),decide_eq_false (show ¬ 33≤c by omega)]
   cases b<;>simp
  ·rw [if_neg (by omega),decide_eq_true (show 33≤c by omega)]
   by_cases h2:c>126
   ·rw [if_pos (by omega),decide_eq_false (show ¬ c≤126 by omega)]
    cases b<;>simp
   ·rw [if_neg (by omega),decide_eq_true (show c≤126 by omega)]
    cases b<;>simp
theorem rvalue_f (s:ByteArray) (hs:s.size≤281474976710656) (k:Nat) (hk:s.size<k):sallyportref08_Value.f k s=some (valB s):=by
 unfold sallyportref08_Value.f valB
 have:=rvalue_loop s hs s.size k 0 (by omega) hk
 rw [List.drop_zero] at this
 rw [value_ends]
 exact this
def atoiV (l:List UInt8):Int:=match Lib.atoiAll l with| .ok v=>v| .range=>Lib.atoiSat l|_=>0
def numOk (l:List UInt8) (most:Int):Bool:=match Lib.atoiAll l with| .ok v=>decide (0≤v) && (decide (v≤most) && (Lib.itoa v==l))|_=>false
theorem atoi_any (s:ByteArray) (hs:s.size≤281474976710656) (w:World) (hS:StdW w):
   Calls Tryz.prog 107 #[.string s] w fun e w'=> ∃ er:Value,e= .returned (.tuple #[.int .i64 (atoiV s.data.toList),er])∧(match Lib.atoiAll s.data.toList with| .ok _=>er= .nilIface|_=> ∃ N,er= .iface 251 (.pointer (some ⟨N,0,none⟩)))∧Below w.heap.size w w':=by
 unfold atoiV
 rcases h:Lib.atoiAll s.data.toList with v|_|_
 ·
   refine (Tryz.strconv_Atoi_ok s (by omega) v h w).mono ?_
   rintro e w' ⟨rfl,hw⟩
   refine ⟨_,rfl,rfl,?_⟩
   rcases hw with rfl|⟨t,rfl⟩
   ·exact Below.refl _ _
   ·exact Lib.bytesWorld_below _ _ _
 ·
   obtain ⟨a,b,hs1⟩:=hS.syn
   refine (Tryz.strconv_Atoi_syntax s hs h _ w hs1 (.inr ⟨_,_,rfl⟩)).mono ?_
   rintro e w' ⟨N,rfl,-,-,hb⟩
   exact ⟨_,rfl,⟨N,rfl⟩,hb⟩
 ·
   obtain ⟨a,b,hs1⟩:=hS.rng
   refine (Tryz.strconv_Atoi_range s hs h _ w hs1 (.inr ⟨_,_,rfl⟩)).mono ?_
   rintro e w' ⟨N,rfl,-,-,hb⟩
   exact ⟨_,rfl,⟨N,rfl⟩,hb⟩
theorem atoiAll_bounds (l:List UInt8) (v:Int) (h:Lib.atoiAll l= .ok v): -9223372036854775808≤v∧v≤9223372036854775807:=by
 unfold Lib.atoiAll at h
 cases l with
 |nil=>cases h
 |cons c r=>
  simp only at h
  split at h
  ·cases h
  ·cases h
  ·rename_i u hu
   have:=Lib.parseMag_lt hu
   split at h
   ·cases h
   ·split at h
    ·cases h
    ·injection h with h
     split at h<;>omega
theorem numOk_bounds (l:List UInt8) (most:Int) (h:numOk l most=true):0≤atoiV l∧atoiV l≤most∧Num.canon l=true∧atoiV l=(Num.val l:Int):=by
 unfold numOk at h
 unfold atoiV
 rcases ha:Lib.atoiAll l with v|_|_
 ·
   rw [ha] at h
   simp only [Bool.and_eq_true,decide_eq_true_eq,beq_iff_eq] at h
   have:=Num.atoi_itoa l v ha h.1 h.2.2
   exact ⟨h.1,h.2.1,this.1,this.2⟩
 · rw [ha] at h;cases h
 · rw [ha] at h;cases h
theorem numOk_canon (l:List UInt8) (most:Nat) (hm:most<9223372036854775808):numOk l (most:Int)=(Num.canon l && decide (Num.val l≤most)):=by
 rw [Bool.eq_iff_iff]
 constructor
 ·intro h
  obtain ⟨h0,h1,hc,hv⟩:=numOk_bounds l _ h
  rw [hc,Bool.true_and,decide_eq_true_eq];omega
 ·intro h
  rw [Bool.and_eq_true,decide_eq_true_eq] at h
  unfold numOk
  rw [Num.atoi_canon l h.1 (by omega)]
  simp only [Bool.and_eq_true,decide_eq_true_eq,beq_iff_eq]
  exact ⟨by omega,by omega,Num.itoa_val l h.1⟩
set_option maxHeartbeats 1000000 in
theorem hnumber_ok (s:ByteArray) (most v:Int) (hv0: -9223372036854775808≤v) (hv1:v≤9223372036854775807) (w:World)
  (A:Calls Tryz.prog 107 #[.string s] w fun e w'=>e= .returned (.tuple #[.int .i64 v,.nilIface])∧Below w.heap.size w w') (hS:StdW w):
  Calls Tryz.prog 179 #[.string s,.int .i64 most] w fun e w'=>e= .returned (.tuple #[.int .i64 v,.bool (decide (0≤v) && (decide (v≤most) && (Lib.itoa v==s.toList)))])∧Below w.heap.size w w':=by
 have HA:=Lib.hid A
 have HS:=Lib.hid hS
 clear A hS
 by_cases h0:0≤v
 ·by_cases h1:v≤most
  ·rw [decide_eq_true h0,decide_eq_true h1,Bool.true_and,Bool.true_and]
   go_enter Tryz.func179,Tryz.ntmps179
   go_wp2_with (first|(go_at_call 107;refine HA.out.mono ?_;rintro e w1 ⟨rfl,hb1⟩)|(go_at_call 108;refine (Itoa.calls v ⟨(Lib.itoa v).toArray⟩ _ (StdW.below HS.out hb1) (by unfold Itoa.f;rw [if_pos ⟨hv0,hv1⟩])).mono ?_;rintro e w2 ⟨rfl,hb2⟩))
   go_ret2
   exact ⟨rfl,below_then hb1 hb1.size hb2⟩
  ·rw [decide_eq_true h0,decide_eq_false h1,Bool.true_and,Bool.false_and]
   have h1':decide (v≤most)=false:=decide_eq_false h1
   go_enter Tryz.func179,Tryz.ntmps179
   go_wp2_with (go_at_call 107;refine HA.out.mono ?_;rintro e w1 ⟨rfl,hb1⟩)
   go_ret2
   exact ⟨rfl,hb1⟩
 ·rw [decide_eq_false h0,Bool.false_and]
  have h0':decide (0≤v)=false:=decide_eq_false h0
  go_enter Tryz.func179,Tryz.ntmps179
  go_wp2_with (go_at_call 107;refine HA.out.mono ?_;rintro e w1 ⟨rfl,hb1⟩)
  go_ret2
  exact ⟨rfl,hb1⟩
set_option maxHeartbeats 1000000 in
theorem hnumber_no (s:ByteArray) (most v:Int) (w:World)
  (A:Calls Tryz.prog 107 #[.string s] w fun e w'=>(∃ N,e= .returned (.tuple #[.int .i64 v,.iface 251 (.pointer (some ⟨N,0,none⟩))]))∧Below w.heap.size w w'):
  Calls Tryz.prog 179 #[.string s,.int .i64 most] w fun e w'=>e= .returned (.tuple #[.int .i64 v,.bool false])∧Below w.heap.size w w':=by
 have HA:=Lib.hid A
 clear A
 go_enter Tryz.func179,Tryz.ntmps179
 go_wp2_with (go_at_call 107;refine HA.out.mono ?_;rintro e w1 ⟨⟨N,rfl⟩,hb1⟩)
 go_ret2
 exact ⟨rfl,hb1⟩
theorem hnumber_any (s:ByteArray) (most:Int) (hs:s.size≤281474976710656) (w:World) (hS:StdW w):
   Calls Tryz.prog 179 #[.string s,.int .i64 most] w fun e w'=>e= .returned (.tuple #[.int .i64 (atoiV s.data.toList),.bool (numOk s.data.toList most)])∧Below w.heap.size w w':=by
 have A:=atoi_any s hs w hS
 unfold numOk
 rcases h:Lib.atoiAll s.data.toList with v|_|_
 ·
   have hv:atoiV s.data.toList=v:=by unfold atoiV;rw [h]
   rw [hv] at A ⊢
   obtain ⟨b0,b1⟩:=atoiAll_bounds _ _ h
   have:=hnumber_ok s most v b0 b1 w (A.mono fun e w' hh=>by
    obtain ⟨er,rfl,he,hb⟩:=hh
    rw [h] at he
    subst he
    exact ⟨rfl,hb⟩) hS
   rw [ByteArray.toList_eq] at this
   exact this
 ·
   exact hnumber_no s most _ w (A.mono fun e w' hh=>by
    obtain ⟨er,rfl,he,hb⟩:=hh
    rw [h] at he
    obtain ⟨N,rfl⟩:=he
    exact ⟨⟨N,rfl⟩,hb⟩)
 ·
   exact hnumber_no s most _ w (A.mono fun e w' hh=>by
    obtain ⟨er,rfl,he,hb⟩:=hh
    rw [h] at he
    obtain ⟨N,rfl⟩:=he
    exact ⟨⟨N,rfl⟩,hb⟩)
def ToLower.f (s:ByteArray):Option ByteArray:=if s.size≤140737488355328∧s.data.toList.all (fun b=>decide (b.toNat<128))=true then some ⟨(Lib.toLowerA s.data.toList).toArray⟩ else none
theorem ToLower.calls (s r:ByteArray) (w:World) (hS_:StdW w) (h:ToLower.f s=some r):
  Calls Tryz.prog 186 #[.string s] w fun e w'=>e= .returned (.string r)∧Below w.heap.size w w':=by
 unfold ToLower.f at h
 split at h
 ·rename_i hc
  obtain rfl:=Option.some.inj h
  exact Tryz.strings_ToLower_ascii s w hc.1 (fun j b hb=>by
   have:=List.all_eq_true.1 hc.2 b (List.mem_of_getElem? hb)
   simpa using this)
 ·cases h
end Go.Proofs.YtgmpdjjoefkndaaGreatDoor.E

namespace Go.Proofs.YtgmpdjjoefkndaaGreatDoor
open Go.RowKit

def kindZ (c:Int):Int:=
 if c=46 then 1 else if 48≤c∧c≤57 then 2 else if c=45 then 3 else if 65≤c∧c≤90 then 4 else if 97≤c∧c≤122 then 4 else 0
theorem kind_any (c:Int) (w:World) (h0:0≤c) (h1:c≤255):
  Calls Tryz.prog 185 #[.int .u8 c] w fun e w'=>e= .returned (.int .i64 (kindZ c))∧w=w':=by
 go_enter Tryz.func185,Tryz.ntmps185
 go_wp2
 all_goals
  go_ret
  refine ⟨?_,rfl⟩
  unfold kindZ
  simp_all
  try omega
end Go.Proofs.YtgmpdjjoefkndaaGreatDoor

namespace Go.Proofs.YtgmpdjjoefkndaaGreatDoor.E
open Go.RowKit Go.Proofs.YtgmpdjjoefkndaaGreatDoorW.PrintWords Go.Proofs.YtgmpdjjoefkndaaGreatDoorW.PrintLast
set_option linter.unusedVariables false
set_option linter.unusedSimpArgs false
def onlyZ (ks:List Int) (l:List UInt8):Bool:=l.all fun c=>ks.contains (kindZ (c.toNat:Int))
theorem take_snoc (s:ByteArray) (k:Nat) (h:k<s.size):s.data.toList.take (k+1)=s.data.toList.take k++[s[k]]:=by
 rw [List.take_succ_eq_append_getElem (by simpa using h)];rfl
theorem all_snoc (p:UInt8→Bool) (l:List UInt8) (c:UInt8):(l++[c]).all p=(l.all p && p c):=by simp [List.all_append]
theorem any_take (ks:List Int) (j:Nat) (h:j<ks.length) (q:Int):(ks.take (j+1)).contains q=((ks.take j).contains q||(q==ks[j])):=by
 rw [List.take_succ_eq_append_getElem h]
 rw [List.contains_eq_any_beq,List.any_append,← List.contains_eq_any_beq]
 simp
theorem all_false (p:UInt8→Bool) (s:ByteArray) (k:Nat) (h:k<s.size) (hp:p s[k]=false):s.data.toList.all p=false:=by
 rw [List.all_eq_false]
 exact ⟨s[k],by
  have:s[k]=s.data.toList[k]'(by simpa using h):=rfl
  rw [this];exact List.getElem_mem _,by simp [hp]⟩
set_option maxRecDepth 100000 in
set_option maxHeartbeats 1000000 in
theorem only_any (s:ByteArray) (ks:List Int) (bk c:Nat) (w:World) (hs:s.size≤281474976710656) (hl:ks.length≤1000)
  (hks: ∀ j,j<ks.length→w.cell? ⟨bk,j,none⟩=some (.int .i64 (ks.getD j 0))):
  Calls Tryz.prog 138 #[.string s,.slice (some ⟨bk,0,none⟩) ks.length c] w fun e w'=>e= .returned (.bool (onlyZ ks s.data.toList))∧w=w':=by
 have HK:=Lib.hid hks
 clear hks
 go_enter Tryz.func138,Tryz.ntmps138
 go_wp2
 go_loop [11] (fun i=> ∃ k:Nat,k≤s.size∧i= .int .i64 k∧Hid (onlyZ ks (s.data.toList.take k)=true)) (fun i=>s.size - (intOf i).toNat)
 case atStart=>exact ⟨0,Nat.zero_le _,rfl,by simp [Hid,onlyZ]⟩
 case round=>
  obtain ⟨k,hk,rfl,HO⟩:=hrel
  by_cases hlt:k<s.size
  ·have hk0:(0:Int)≤(k:Int):=Int.natCast_nonneg _
   have hk1:(k:Int)<(s.size:Int):=by omega
   go_wp2
   go_loop [6,16] (fun b j=> ∃ (m:Nat),m≤ks.length∧j= .int .i64 m∧b= .bool ((ks.take m).contains (kindZ (s[k].toNat:Int)))) (fun _ j=>ks.length - (intOf j).toNat)
   case atStart=>exact ⟨0,Nat.zero_le _,rfl,by simp⟩
   case round=>
    obtain ⟨m,hm,rfl,rfl⟩:=hrel
    by_cases hmt:m<ks.length
    ·have hc:=HK.out m hmt
     have hm0:(0:Int)≤(m:Int):=Int.natCast_nonneg _
     have hat:=Lib.hid (any_take ks m hmt (kindZ (s[k].toNat:Int)))
     have KC:=Lib.hid (fun W=>kind_any (s[k].toNat:Int) W (by omega) (by have:=s[k].toNat_lt;omega))
     cases hb:(ks.take m).contains (kindZ (s[k].toNat:Int))
     ·have HB:=Lib.hid hb
      clear hb
      go_wp2_with (go_at_call 185;refine (KC.out _).mono ?_;rintro e w' ⟨rfl,rfl⟩)
      all_goals
       go_round
       case rel=>exact ⟨m+1,by omega,by go_num,by first|(rw [hat.out,HB.out];rfl)|(rw [hat.out,HB.out,Bool.false_or])⟩
       case measure=>simp [intOf];omega
     ·have HB:=Lib.hid hb
      clear hb
      go_wp2_with (go_at_call 185;refine (KC.out _).mono ?_;rintro e w' ⟨rfl,rfl⟩)
      all_goals
       go_round
       case rel=>exact ⟨m+1,by omega,by go_num,by first|(rw [hat.out,HB.out];rfl)|(rw [hat.out,HB.out,Bool.false_or])⟩
       case measure=>simp [intOf];omega
    ·have hme:m=ks.length:=by omega
     subst hme
     rw [List.take_length]
     have hts:=take_snoc s k hlt
     have HS:Hid (onlyZ ks (s.data.toList.take (k+1))=ks.contains (kindZ (s[k].toNat:Int))):=by
      have:=HO.out
      unfold onlyZ at this ⊢
      rw [hts,all_snoc,this,Bool.true_and];rfl
     clear hts
     cases hb:ks.contains (kindZ (s[k].toNat:Int))
     ·have HB:=Lib.hid hb
      clear hb
      go_wp2
      go_ret
      have hf:onlyZ ks s.data.toList=false:=all_false _ s k hlt HB.out
      exact ⟨by rw [hf];rfl,rfl⟩
     ·have HB:=Lib.hid hb
      clear hb
      go_wp2
      go_round
      case rel=>exact ⟨k+1,by omega,by go_num,by rw [HB.out] at HS;exact HS⟩
      case measure=>simp [intOf];omega
  ·go_wp2
   go_ret
   have hke:k=s.size:=by omega
   subst hke
   refine ⟨?_,rfl⟩
   have:=HO.out
   rw [List.take_of_length_le (by simp)] at this
   rw [this]
   rfl
def ErrIs (w:World):Value→List (ByteArray×Int)→Int→Prop
 |v,[],c=>v= .iface 30 (.int .i64 c)
 |v,(l,a)::r,c=> ∃ b u,v= .iface 140 (.pointer (some ⟨b,0,none⟩))∧w.cell? ⟨b,0,none⟩=some (.string l)∧w.cell? ⟨b,1,none⟩=some (.int .i64 a)∧w.cell? ⟨b,2,none⟩=some u∧ErrIs w u r c
theorem ErrIs.below {w w':World} (hb:Below w.heap.size w w'): ∀ {v:Value} {r:List (ByteArray×Int)} {c:Int},ErrIs w v r c→ErrIs w' v r c
 |_,[],_,h=>h
 |_,(l,a)::r,c,h=>by
  obtain ⟨b,u,e,h0,h1,h2,hr⟩:=h
  exact ⟨b,u,e,pw_cell_below hb h0,pw_cell_below hb h1,pw_cell_below hb h2,ErrIs.below hb hr⟩
def hostS:ByteArray:=⟨#[104,111,115,116]⟩
theorem ErrIs.iface {w:World}: ∀ {v:Value} {r:List (ByteArray×Int)} {c:Int},ErrIs w v r c→ ∃ t x,v= .iface t x
 |_,[],_,h=>⟨_,_,h⟩
 |_,(l,a)::r,c,h=>by obtain ⟨b,u,e,_⟩:=h;exact ⟨_,_,e⟩
theorem wrong_walk (at_:Int) (t:TypeId) (x:Value) (w:World):
  Calls Tryz.prog 133 #[.int .i64 at_,.iface t x] w fun e w'=>e= .returned (.iface 140 (.pointer (some ⟨w.heap.size,0,none⟩)))∧w'=w.alloc (.cells #[.string hostS,.int .i64 at_,.iface t x] 142):=by
 go_enter Tryz.func133,Tryz.ntmps133
 go_wp2
 go_ret
 exact ⟨rfl,rfl⟩
theorem wrong_any (at_:Int) (er:Value) (r:List (ByteArray×Int)) (c:Int) (w:World) (h:ErrIs w er r c):
  Calls Tryz.prog 133 #[.int .i64 at_,er] w fun e w'=> ∃ v,e= .returned v∧ErrIs w' v ((hostS,at_)::r) c∧Below w.heap.size w w':=by
 obtain ⟨t,x,rfl⟩:=h.iface
 refine (wrong_walk at_ t x w).mono ?_
 rintro e w' ⟨rfl,rfl⟩
 have hb:Below w.heap.size w (w.alloc (.cells #[.string hostS,.int .i64 at_,.iface t x] 142)):=(Below.refl _ _).alloc (Nat.le_refl _) _
 exact ⟨_,rfl,⟨w.heap.size,.iface t x,rfl,by simp,by simp,by simp,ErrIs.below hb h⟩,hb⟩
def parts (s:ByteArray):List ByteArray:=Lib.splitB ⟨#[46]⟩ 0 (Lib.countB s ⟨#[46]⟩) s
theorem parts_pos (s:ByteArray):0<(parts s).length:=by
 unfold parts;rw [Lib.splitB_all ⟨#[46]⟩ (Nat.le_refl _) 0 _ s rfl];omega
theorem split_dots (s:ByteArray) (hs:s.size<4294967281) (w:World) (hS:StdW w):
  Calls Tryz.prog 50 #[.string s,.string ⟨#[46]⟩] w fun e w'=>e= .returned (.slice (some ⟨w.heap.size,0,none⟩) (parts s).length (parts s).length)∧(∀ j,(h:j<(parts s).length)→w'.cell? ⟨w.heap.size,j,none⟩=some (.string (parts s)[j]))∧w.heap.size<w'.heap.size∧Below w.heap.size w w':=by
 obtain ⟨m,hm⟩:=hS.max
 refine (Tryz.strings_Split s ⟨#[46]⟩ m w hs hm (Nat.le_refl _)).mono ?_
 rintro e w' ⟨rfl,rfl⟩
 have hl:=Lib.splitB_all ⟨#[46]⟩ (Nat.le_refl _) 0 _ s rfl
 refine ⟨by unfold parts;rw [hl],fun j hj=>?_,by simp,(Below.refl _ _).alloc (Nat.le_refl _) _⟩
 unfold parts at hj ⊢
 rw [World.cell?_alloc_new,List.getElem?_toArray,List.getElem?_map,List.getElem?_eq_getElem hj]
 rfl
def lblOk (p:List UInt8):Bool:=
 !p.isEmpty && (decide (p.length≤63) && (onlyZ [2,3,4] p && (!((p.headD 0).toNat==45) && !((p.getLastD 0).toNat==45))))
def badAt:Nat→List ByteArray→Option Nat
 |_,[]=>none
 |at_,p::r=>if lblOk p.data.toList then badAt (at_+p.size+1) r else some at_
def sumAt:Nat→List ByteArray→Nat
 |at_,[]=>at_
 |at_,p::r=>sumAt (at_+p.size+1) r
theorem badAt_append (l:List ByteArray) (p:ByteArray): ∀ a,badAt a (l++[p])=match badAt a l with|some x=>some x|none=>if lblOk p.data.toList then none else some (sumAt a l):=by
 induction l with
 |nil=>intro a;simp [badAt,sumAt]
 |cons q r ih=>
  intro a
  simp only [List.cons_append,badAt,sumAt]
  split
  ·exact ih _
  ·rfl
theorem sumAt_append (l:List ByteArray) (p:ByteArray): ∀ a,sumAt a (l++[p])=sumAt a l+p.size+1:=by
 induction l with
 |nil=>intro a;rfl
 |cons q r ih=>intro a;exact ih _
theorem badAt_some (l r:List ByteArray) (x:Nat): ∀ a,badAt a l=some x→badAt a (l++r)=some x:=by
 induction l with
 |nil=>intro a h;cases h
 |cons q t ih=>
  intro a h
  simp only [List.cons_append,badAt] at h ⊢
  split
  ·rename_i hq;rw [if_pos hq] at h;exact ih _ h
  ·rename_i hq;rw [if_neg hq] at h;exact h
set_option maxRecDepth 100000 in
set_option maxHeartbeats 2000000 in
theorem parseName_long (s:ByteArray) (hs:253<s.size) (hs2:s.size≤281474976710656) (w:World):
  Calls Tryz.prog 140 #[.string s] w fun e w'=> ∃ v,e= .returned (.tuple #[.string ⟨#[]⟩,v])∧ErrIs w' v [(hostS,253)] 3∧Below w.heap.size w w':=by
 have HE: ∀ W,ErrIs W (.iface 30 (.int .i64 3)) [] 3:=fun W=>rfl
 have HW:=Lib.hid (fun W=>wrong_any 253 _ [] 3 W (HE W))
 clear HE
 go_enter Tryz.func140,Tryz.ntmps140
 go_wp2_with (go_at_call 133;refine (HW.out _).mono ?_;rintro e w1 ⟨v,rfl,he,hb⟩)
 go_ret2
 exact ⟨v,rfl,he,hb⟩
theorem only3 (p:ByteArray) (hp:p.size≤281474976710656) (W:World):
  Calls Tryz.prog 138 #[.string p,.slice (some ⟨W.heap.size,0,none⟩) 3 3] (W.alloc (.cells #[.int .i64 2,.int .i64 3,.int .i64 4] 3)) fun e w'=>e= .returned (.bool (onlyZ [2,3,4] p.data.toList))∧W.alloc (.cells #[.int .i64 2,.int .i64 3,.int .i64 4] 3)=w':=
 only_any p [2,3,4] W.heap.size 3 _ hp (by decide) (fun j hj=>by
  rw [World.cell?_alloc_new]
  match j,hj with
  |0,_=>rfl
  |1,_=>rfl
  |2,_=>rfl)
theorem only1 (p:ByteArray) (hp:p.size≤281474976710656) (W:World):
  Calls Tryz.prog 138 #[.string p,.slice (some ⟨W.heap.size,0,none⟩) 1 1] (W.alloc (.cells #[.int .i64 2] 3)) fun e w'=>e= .returned (.bool (onlyZ [2] p.data.toList))∧W.alloc (.cells #[.int .i64 2] 3)=w':=
 only_any p [2] W.heap.size 1 _ hp (by decide) (fun j hj=>by
  rw [World.cell?_alloc_new]
  match j,hj with
  |0,_=>rfl)
def pnRes (s:ByteArray):(Int×Int) ⊕ ByteArray:=
 if 253<s.size then .inl (253,3) else match badAt 0 (parts s) with
  |some a=> .inl ((a:Int),61)
  |none=>if onlyZ [2] ((parts s).getLastD ⟨#[]⟩).data.toList then .inl ((sumAt 0 (parts s):Int) - 1 - ((parts s).getLastD ⟨#[]⟩).size,63) else .inr ⟨(Lib.toLowerA s.data.toList).toArray⟩
def PNPost (r:(Int×Int) ⊕ ByteArray) (w:World) (e:Ending) (w':World):Prop:=
 Below w.heap.size w w'∧match r with
  | .inl (a,c)=> ∃ v,e= .returned (.tuple #[.string ⟨#[]⟩,v])∧ErrIs w' v [(hostS,a)] c
  | .inr t=>e= .returned (.tuple #[.string t,.nilIface])
theorem parts_le (s:ByteArray):(parts s).length≤s.size+1:=by
 unfold parts;rw [Lib.splitB_all ⟨#[46]⟩ (Nat.le_refl _) 0 _ s rfl]
 have:=Lib.countB_le ⟨#[46]⟩ (Nat.le_refl _) s.size s (Nat.le_refl _);omega
theorem size_zero (p:ByteArray):p.toList.isEmpty=decide (p.size=0):=by
 rw [ByteArray.toList_eq]
 obtain ⟨⟨l⟩⟩:=p
 cases l<;>rfl
theorem getLast_take (l:List ByteArray) (k:Nat) (h:k<l.length):(l.take (k+1)).getLastD ⟨#[]⟩=l[k]:=by
 rw [List.take_succ_eq_append_getElem h,List.getLastD_eq_getLast?,List.getLast?_append];rfl
theorem head_eq (p:ByteArray) (h:0<p.size):p.data.toList.headD 0=p[0]:=by
 obtain ⟨⟨l⟩⟩:=p
 cases l with
 |nil=>simp [ByteArray.size] at h
 |cons c r=>rfl
theorem last_eq (p:ByteArray) (h:p.size - 1<p.size):p.data.toList.getLastD 0=p[p.size - 1]:=by
 obtain ⟨⟨l⟩⟩:=p
 have hl:l≠[]:=by rintro rfl;simp [ByteArray.size] at h
 show l.getLastD 0=l[l.length - 1]
 rw [List.getLastD_eq_getLast?,List.getLast?_eq_some_getLast hl,Option.getD_some,List.getLast_eq_getElem]
set_option maxRecDepth 100000 in
set_option maxHeartbeats 8000000 in
theorem parseName_short (s:ByteArray) (hs:s.size≤253) (hasc:badAt 0 (parts s)=none→s.data.toList.all (fun b=>decide (b.toNat<128))=true) (hsz: ∀ p ∈ parts s,p.size≤253) (hsum: ∀ k,sumAt 0 ((parts s).take k)≤254) (w:World) (hS:StdW w):
  Calls Tryz.prog 140 #[.string s] w (PNPost (pnRes s) w):=by
 have HSP:=Lib.hid (split_dots s (by omega) w hS)
 have HS:=Lib.hid hS
 have HPN:=Lib.hid (show pnRes s=_ by unfold pnRes;rw [if_neg (show ¬ 253<s.size by omega)])
 have HLOW:=Lib.hid hasc
 have HSZ:=Lib.hid hsz
 have HSUM:=Lib.hid hsum
 clear hS hasc hsz hsum
 have HW:=Lib.hid (fun a c W=>wrong_any a _ [] c W (show ErrIs W (.iface 30 (.int .i64 c)) [] c from rfl))
 have hn0:=parts_pos s
 have hn1:=parts_le s
 go_enter Tryz.func140,Tryz.ntmps140
 go_wp2_with (go_at_call 50;refine HSP.out.mono ?_;rintro e w1 ⟨rfl,hc,hlt1,hb1⟩)
 have HC:=Lib.hid hc
 have HB1:=Lib.hid hb1
 clear hc hb1
 generalize hl:parts s=l at HC hn0 hn1 HPN HLOW HSZ HSUM ⊢
 have HL:=Lib.hid hl
 clear hl
 go_loopw [4,5,16] (fun a z i wr=> ∃ (k q:Nat) (y:ByteArray),k≤l.length∧i= .int .i64 k∧a= .int .i64 q∧q≤254∧y.size≤253∧z= .string y∧Hid (q=sumAt 0 (l.take k))∧Hid (y=(l.take k).getLastD ⟨#[]⟩)∧Hid (badAt 0 (l.take k)=none)∧Hid (Below w1.heap.size w1 wr)) (fun _ _ i _=>l.length - (intOf i).toNat)
 case atStart=>exact ⟨0,0,⟨#[]⟩,Nat.zero_le _,rfl,rfl,by omega,by decide,rfl,rfl,rfl,rfl,Lib.hid (Below.refl _ _)⟩
 case round=>
  obtain ⟨k,q,y,hk,rfl,rfl,hq,hy,rfl,HQ,HY,HBA,HBW⟩:=hrel
  by_cases hlt:k<l.length
  ·have hk0:(0:Int)≤(k:Int):=Int.natCast_nonneg _
   have hk1:(k:Int)<(l.length:Int):=by omega
   have hcell:wr.cell? ⟨w.heap.size,k,none⟩=some (.string l[k]):=(HBW.out.cell (p:=⟨w.heap.size,k,none⟩) hlt1).trans (HC.out k hlt)
   have hpsz:l[k].size≤253:=HSZ.out _ (List.getElem_mem _)
   have hq1:=HSUM.out (k+1)
   rw [List.take_succ_eq_append_getElem hlt,sumAt_append,← HQ.out] at hq1
   have HNX:Hid (badAt 0 (l.take (k+1))=if lblOk l[k].data.toList then none else some q):=by
    rw [List.take_succ_eq_append_getElem hlt,badAt_append,HBA.out,← HQ.out];exact rfl
   have HQ1:Hid (q+l[k].size+1=sumAt 0 (l.take (k+1))):=by
    rw [List.take_succ_eq_append_getElem hlt,sumAt_append,← HQ.out];exact rfl
   have HY1:Hid (l[k]=(l.take (k+1)).getLastD ⟨#[]⟩):=by rw [getLast_take l k hlt];exact rfl
   generalize l[k]=p at hcell hpsz hq1 HNX HQ1 HY1
   have HBAD:lblOk p.data.toList=false→ ∀ (v:Value) (wx:World),ErrIs wx v [(hostS,(q:Int))] 61→Below w.heap.size w wx→PNPost (pnRes s) w (.returned (.tuple #[.string ⟨#[]⟩,v])) wx:=by
    intro hb v wx he hbx
    have h1:=HNX.out
    rw [hb] at h1
    have h2:=badAt_some (l.take (k+1)) (l.drop (k+1)) q 0 h1
    rw [List.take_append_drop] at h2
    refine ⟨hbx,?_⟩
    rw [HPN.out,h2]
    exact ⟨v,rfl,he⟩
   have HBAD':=Lib.hid HBAD
   clear HBAD
   have HBW':Hid (Below w.heap.size w wr):=Lib.hid (below_then HB1.out (Nat.le_of_lt hlt1) (HBW.out.mono (Nat.le_refl _)))
   by_cases hA:p.size=0
   ·have hA1:p.toList.isEmpty=true:=by rw [size_zero];simpa using hA
    have HLB:=Lib.hid (show lblOk p.data.toList=false by unfold lblOk;rw [← ByteArray.toList_eq,hA1];rfl)
    clear hA
    go_wp2_with (go_at_call 133;refine (HW.out _ _ _).mono ?_;rintro e w2 ⟨v,rfl,he,hb2⟩)
    go_ret2
    exact HBAD'.out HLB.out v _ he (below_then HBW'.out HBW'.out.size hb2)
   ·have hA1:p.toList.isEmpty=false:=by rw [size_zero];simpa using hA
    have hp0:(0:Int)<(p.size:Int):=by omega
    by_cases hB:63<p.size
    ·have hB1:(63:Int)<(p.size:Int):=by omega
     have HLB:=Lib.hid (show lblOk p.data.toList=false by
      unfold lblOk;rw [show decide (p.data.toList.length≤63)=false from decide_eq_false (by rw [← Lib.size_eq];omega)];simp)
     go_wp2_with (go_at_call 133;refine (HW.out _ _ _).mono ?_;rintro e w2 ⟨v,rfl,he,hb2⟩)
     go_ret2
     exact HBAD'.out HLB.out v _ he (below_then HBW'.out HBW'.out.size hb2)
    ·have hB1:(p.size:Int)≤63:=by omega
     have HO3:=Lib.hid (only3 p (by omega))
     cases hC:onlyZ [2,3,4] p.data.toList
     ·have HLB:=Lib.hid (show lblOk p.data.toList=false by unfold lblOk;rw [hC];simp)
      rw [hC] at HO3
      clear hC
      go_wp2_with (first|(go_at_call 138;refine (HO3.out _).mono ?_;rintro e w2 ⟨rfl,rfl⟩)|(go_at_call 133;refine (HW.out _ _ _).mono ?_;rintro e w2 ⟨v,rfl,he,hb2⟩))
      go_ret2
      exact HBAD'.out HLB.out v _ he (below_then (below_alloc HBW'.out _) (below_alloc HBW'.out _).size hb2)
     ·rw [hC] at HO3
      have HC3:=Lib.hid hC
      clear hC
      have hp1:p.size - 1<p.size:=by omega
      have hp2:(0:Int)≤(p.size:Int) - 1:=by omega
      have hp3:(p.size:Int) - 1<(p.size:Int):=by omega
      have hpp:0<p.size:=by omega
      have HHE:=Lib.hid (head_eq p hpp)
      have HLE:=Lib.hid (last_eq p hp1)
      cases hD:(((p[0]).toNat:Int)==45)
      ·cases hE:(((p[p.size - 1]).toNat:Int)==45)
       ·have HLB:=Lib.hid (show lblOk p.data.toList=true by
         unfold lblOk;rw [HLE.out,HHE.out,HC3.out]
         have e1:((p[0]).toNat==45)=false:=by rw [beq_eq_false_iff_ne] at hD ⊢;omega
         have e2:((p[p.size - 1]).toNat==45)=false:=by rw [beq_eq_false_iff_ne] at hE ⊢;omega
         have e3:p.data.toList.isEmpty=false:=by rw [← ByteArray.toList_eq];exact hA1
         rw [e1,e2,e3,show decide (p.data.toList.length≤63)=true from decide_eq_true (by rw [← Lib.size_eq];omega)];rfl)
        clear hA
        go_wp2_with (go_at_call 138;refine (HO3.out _).mono ?_;rintro e w2 ⟨rfl,rfl⟩)
        go_roundw
        case rel=>exact ⟨k+1,q+p.size+1,p,by omega,by go_num,by go_num,by omega,by omega,rfl,HQ1,HY1,by rw [HLB.out] at HNX;exact HNX,Lib.hid (below_then HBW.out HBW.out.size (by exact below_alloc (Below.refl _ _) _))⟩
        case measure=>simp [intOf];omega
       ·have HLB:=Lib.hid (show lblOk p.data.toList=false by
         unfold lblOk;rw [HLE.out]
         have:((p[p.size - 1]).toNat==45)=true:=by rw [beq_iff_eq] at hE ⊢;omega
         rw [this];simp)
        clear hA
        go_wp2_with (first|(go_at_call 138;refine (HO3.out _).mono ?_;rintro e w2 ⟨rfl,rfl⟩)|(go_at_call 133;refine (HW.out _ _ _).mono ?_;rintro e w2 ⟨v,rfl,he,hb2⟩))
        go_ret2
        exact HBAD'.out HLB.out v _ he (below_then (below_alloc HBW'.out _) (below_alloc HBW'.out _).size hb2)
      ·have HLB:=Lib.hid (show lblOk p.data.toList=false by
        unfold lblOk;rw [HHE.out]
        have:((p[0]).toNat==45)=true:=by rw [beq_iff_eq] at hD ⊢;omega
        rw [this];simp)
       clear hA
       go_wp2_with (first|(go_at_call 138;refine (HO3.out _).mono ?_;rintro e w2 ⟨rfl,rfl⟩)|(go_at_call 133;refine (HW.out _ _ _).mono ?_;rintro e w2 ⟨v,rfl,he,hb2⟩))
       go_ret2
       exact HBAD'.out HLB.out v _ he (below_then (below_alloc HBW'.out _) (below_alloc HBW'.out _).size hb2)
  ·have hke:k=l.length:=by omega
   subst hke
   rw [List.take_length] at HQ HY HBA
   have HBW':Hid (Below w.heap.size w wr):=Lib.hid (below_then HB1.out (Nat.le_of_lt hlt1) (HBW.out.mono (Nat.le_refl _)))
   have HO1:=Lib.hid (only1 y (by omega))
   have hend:pnRes s=if onlyZ [2] y.data.toList then .inl ((q:Int) - 1 - y.size,63) else .inr ⟨(Lib.toLowerA s.data.toList).toArray⟩:=by
    rw [HPN.out,HBA.out]
    simp only [← HY.out,← HQ.out]
   have HEND:=Lib.hid hend
   clear hend
   cases hC:onlyZ [2] y.data.toList
   ·rw [hC] at HO1 HEND
    clear hC
    have HLW:=Lib.hid (ToLower.calls s ⟨(Lib.toLowerA s.data.toList).toArray⟩)
    have HF:=Lib.hid (show ToLower.f s=some ⟨(Lib.toLowerA s.data.toList).toArray⟩ by unfold ToLower.f;rw [if_pos ⟨by omega,HLOW.out HBA.out⟩])
    go_wp2_with (first|(go_at_call 138;refine (HO1.out _).mono ?_;rintro e w2 ⟨rfl,rfl⟩)|(go_at_call 186;refine (HLW.out _ (StdW.below HS.out (below_alloc HBW'.out _)) HF.out).mono ?_;rintro e w3 ⟨rfl,hb3⟩))
    go_ret2
    refine ⟨below_then (below_alloc HBW'.out _) (below_alloc HBW'.out _).size hb3,?_⟩
    rw [HEND.out]
    rfl
   ·rw [hC] at HO1 HEND
    clear hC
    go_wp2_with (first|(go_at_call 138;refine (HO1.out _).mono ?_;rintro e w2 ⟨rfl,rfl⟩)|(go_at_call 133;refine (HW.out _ _ _).mono ?_;rintro e w2 ⟨v,rfl,he,hb2⟩))
    go_ret2
    refine ⟨below_then (below_alloc HBW'.out _) (below_alloc HBW'.out _).size hb2,?_⟩
    rw [HEND.out]
    exact ⟨v,rfl,he⟩
theorem parts_data (s:ByteArray):(parts s).map (·.data.toList)=Pt.cutOn 46 s.data.toList:=by
 unfold parts
 rw [Lib.splitB_data,← Pt.splitK_cutOn]
 first|done|rfl
theorem sumAt_eq (l:List ByteArray): ∀ a,sumAt a l=a+Pt.tot (l.map (·.data.toList)):=by
 induction l with
 |nil=>intro a;rfl
 |cons p r ih=>
  intro a
  rw [sumAt,ih]
  have:(p.data.toList).length=p.size:=(Lib.size_eq p).symm
  simp only [Pt.tot,List.map_cons,List.sum_cons,this];omega
theorem sumAt_parts (s:ByteArray):sumAt 0 (parts s)=s.size+1:=by
 rw [sumAt_eq,parts_data,Pt.tot_cutOn,Lib.size_eq];omega
theorem sumAt_take (l:List ByteArray) (k:Nat):sumAt 0 (l.take k)≤sumAt 0 l:=by
 rw [sumAt_eq,sumAt_eq]
 conv=>rhs;rw [← List.take_append_drop k l]
 simp only [Pt.tot,List.map_append,List.sum_append];omega
theorem size_mem (l:List ByteArray) (p:ByteArray) (h:p ∈ l):p.size+1≤sumAt 0 l:=by
 rw [sumAt_eq]
 induction l with
 |nil=>cases h
 |cons q r ih=>
  have hq:(q.data.toList).length=q.size:=(Lib.size_eq q).symm
  simp only [Pt.tot,List.map_cons,List.sum_cons,hq] at ih ⊢
  rcases List.mem_cons.1 h with rfl|h
  ·omega
  ·have:=ih h;omega
theorem badAt_none (l:List ByteArray): ∀ a,badAt a l=none↔ ∀ p ∈ l,lblOk p.data.toList=true:=by
 induction l with
 |nil=>intro a;simp [badAt]
 |cons q r ih=>
  intro a
  unfold badAt
  split
  ·rename_i h;rw [ih];simp [h]
  ·rename_i h;simp [h]
theorem kind_ascii (c:UInt8) (h:([2,3,4]:List Int).contains (kindZ (c.toNat:Int))=true):c.toNat<128:=by
 unfold kindZ at h
 split at h
 ·simp at h
 ·split at h
  ·omega
  ·split at h
   ·omega
   ·split at h
    ·omega
    ·split at h
     ·omega
     ·simp at h
theorem ok_ascii (s:ByteArray) (h:badAt 0 (parts s)=none):s.data.toList.all (fun b=>decide (b.toNat<128))=true:=by
 refine Pt.cutOn_all 46 _ (by decide) _ fun p hp=>?_
 rw [← parts_data] at hp
 obtain ⟨q,hq,rfl⟩:=List.mem_map.1 hp
 have:=(badAt_none _ 0).1 h q hq
 unfold lblOk at this
 simp only [Bool.and_eq_true] at this
 have h2:=this.2.2.1
 unfold onlyZ at h2
 rw [List.all_eq_true] at h2 ⊢
 intro c hc
 exact decide_eq_true (kind_ascii c (h2 c hc))
theorem parseName_any (s:ByteArray) (hs:s.size≤281474976710656) (w:World) (hS:StdW w):
  Calls Tryz.prog 140 #[.string s] w (PNPost (pnRes s) w):=by
 by_cases h:s.size≤253
 ·refine parseName_short s h (ok_ascii s) (fun p hp=>?_) (fun k=>?_) w hS
  ·have:=size_mem _ p hp;rw [sumAt_parts] at this;omega
  ·have:=sumAt_take (parts s) k;rw [sumAt_parts] at this;omega
 ·refine (parseName_long s (by omega) hs w).mono ?_
  rintro e w' ⟨v,rfl,he,hb⟩
  refine ⟨hb,?_⟩
  have:pnRes s= .inl (253,3):=by unfold pnRes;rw [if_pos (by omega)]
  rw [this]
  exact ⟨v,rfl,he⟩
theorem boxCell {w w1:World} {C:Array Value} {T:TypeId} (hb:Below (w.alloc (.cells C T)).heap.size (w.alloc (.cells C T)) w1) (j:Nat) (v:Value) (h:C[j]? =some v):w1.cell? ⟨w.heap.size,j,none⟩=some v:=
 (hb.cell (p:=⟨w.heap.size,j,none⟩) (by simp)).trans ((World.cell?_alloc_new ..).trans h)
theorem setCell_id (w:World) (b j:Nat) (v:Value) (h:w.cell? ⟨b,j,none⟩=some v):w.setCell ⟨b,j,none⟩ v=w:=by
 have hh:w.heap.modify b (fun o=>match o with
   | .cells c elem frozen=> .cells (c.setIfInBounds j v) elem frozen
   |o=>o)=w.heap:=by
  apply Array.ext_getElem?
  intro k
  rw [Array.getElem?_modify]
  split
  ·rename_i e
   subst e
   unfold World.cell? at h
   cases hk:w.heap[b]? with
   |none=>rfl
   |some o=>
    rw [hk] at h
    cases o with
    |cells c t fr=>
     simp only [Option.isSome_none,Bool.false_eq_true,if_false] at h
     simp only [Option.map_some,Option.some.injEq,Obj.cells.injEq,and_true]
     apply Array.ext_getElem?
     intro i
     rw [Array.getElem?_setIfInBounds]
     split
     ·rename_i e;subst e
      split
      ·exact h.symm
      ·rename_i hb
       rw [Array.getElem?_eq_none (by omega)] at h;cases h
     ·rfl
    |_=>rfl
  ·rfl
 exact congrArg (fun h=>({ w with heap:=h }:World)) hh
theorem boxFree {w w1:World} {C:Array Value} {T:TypeId} (hb:Below (w.alloc (.cells C T)).heap.size (w.alloc (.cells C T)) w1) (j:Nat):w1.frozen? ⟨w.heap.size,j,none⟩=false:=
 (hb.frozen (p:=⟨w.heap.size,j,none⟩) (by simp)).trans (by simp)
set_option maxRecDepth 100000 in
set_option maxHeartbeats 2000000 in
theorem parseAddr_long (s:ByteArray) (hs:253<s.size) (hs2:s.size≤281474976710656) (w:World):
  Calls Tryz.prog 139 #[.string s] w fun e w'=> ∃ v,e= .returned (.tuple #[.agg #[.int .u8 0,.int .u8 0,.int .u8 0,.int .u8 0],v])∧ErrIs w' v [(hostS,253)] 3∧Below w.heap.size w w':=by
 have HE: ∀ W,ErrIs W (.iface 30 (.int .i64 3)) [] 3:=fun W=>rfl
 have HW:=Lib.hid (fun W=>wrong_any 253 _ [] 3 W (HE W))
 clear HE
 go_enter Tryz.func139,Tryz.ntmps139
 go_wp2_with (first|(go_at_call 133;refine (HW.out _).mono ?_;rintro e w1 ⟨v,rfl,he,hb⟩;have c0:=boxCell hb 0 (.int .u8 0) rfl;have c1:=boxCell hb 1 (.int .u8 0) rfl;have c2:=boxCell hb 2 (.int .u8 0) rfl;have c3:=boxCell hb 3 (.int .u8 0) rfl;have f0:=boxFree hb 0;have f1:=boxFree hb 1;have f2:=boxFree hb 2;have f3:=boxFree hb 3;have s0:=setCell_id _ _ _ _ c0;have s1:=setCell_id _ _ _ _ c1;have s2:=setCell_id _ _ _ _ c2;have s3:=setCell_id _ _ _ _ c3))
 refine bodyPost_ret (v:= .tuple #[.agg #[.int .u8 0,.int .u8 0,.int .u8 0,.int .u8 0],v]) (by simp [results,Tryz.results139,go_sem,c0,c1,c2,c3]) rfl ⟨v,rfl,?_,?_⟩
 ·exact he
 ·exact below_then (below_alloc (Below.refl _ _) _) (below_alloc (Below.refl _ _) _).size hb
def paLoop (sz:Int):Int→Int→List ByteArray→List Int→(Int×Int) ⊕ List Int
 |_,_,[],acc=> .inr acc
 |i,a,p::r,acc=>if i=4 then .inl (a,63) else if numOk p.data.toList 255=false then .inl (a,60)
  else if sz<a+p.size+1∧i<3 then .inl (sz,63) else paLoop sz (i+1) (a+p.size+1) r (acc++[atoiV p.data.toList])
def paRes (s:ByteArray):(Int×Int) ⊕ List Int:=if 253<s.size then .inl (253,3) else paLoop s.size 0 0 (parts s) []
def PAPost (r:(Int×Int) ⊕ List Int) (w:World) (e:Ending) (w':World):Prop:=
 Below w.heap.size w w'∧match r with
  | .inl (a,c)=> ∃ v,e= .returned (.tuple #[.agg #[.int .u8 0,.int .u8 0,.int .u8 0,.int .u8 0],v])∧ErrIs w' v [(hostS,a)] c
  | .inr l=>l.length=4∧e= .returned (.tuple #[.agg #[.int .u8 (l.getD 0 0),.int .u8 (l.getD 1 0),.int .u8 (l.getD 2 0),.int .u8 (l.getD 3 0)],.nilIface])
def Mem (w wr:World) (acc:List Int):Prop:=
 (∀ j,j<4→wr.cell? ⟨w.heap.size,j,none⟩=some (.int .u8 0)∧wr.frozen? ⟨w.heap.size,j,none⟩=false)∧
 (∀ j,j<4→wr.cell? ⟨w.heap.size+1,j,none⟩=some (.int .u8 (acc.getD j 0))∧wr.frozen? ⟨w.heap.size+1,j,none⟩=false)∧w.heap.size+1<wr.heap.size
theorem Mem.below {w wr w1:World} {acc:List Int} (h:Mem w wr acc) (hb:Below wr.heap.size wr w1):Mem w w1 acc:=by
 obtain ⟨h0,h1,h2⟩:=h
 refine ⟨fun j hj=>?_,fun j hj=>?_,Nat.lt_of_lt_of_le h2 hb.size⟩
 ·obtain ⟨a,b⟩:=h0 j hj
  exact ⟨pw_cell_below hb a,(hb.frozen (p:=⟨w.heap.size,j,none⟩) (by show w.heap.size<_;omega)).trans b⟩
 ·obtain ⟨a,b⟩:=h1 j hj
  exact ⟨pw_cell_below hb a,(hb.frozen (p:=⟨w.heap.size+1,j,none⟩) (by show w.heap.size+1<_;omega)).trans b⟩
theorem Mem.put {w wr:World} {acc:List Int} {k:Nat} (h:Mem w wr acc) (hk:acc.length=k) (h4:k<4) (v:Int):Mem w (wr.setCell ⟨w.heap.size+1,k,none⟩ (.int .u8 v)) (acc++[v]):=by
 obtain ⟨h0,h1,h2⟩:=h
 refine ⟨fun j hj=>?_,fun j hj=>?_,by simpa [World.setCell] using h2⟩
 ·obtain ⟨a,b⟩:=h0 j hj
  rw [World.frozen?_setCell,World.cell?_setCell_other _ _ _ _ (by intro e;injection e with e;omega)]
  exact ⟨a,b⟩
 ·obtain ⟨a,b⟩:=h1 j hj
  rw [World.frozen?_setCell]
  refine ⟨?_,b⟩
  by_cases e:j=k
  ·subst e
   rw [World.cell?_setCell_same _ _ _ a]
   simp [List.getD_eq_getElem?_getD,← hk]
  ·rw [World.cell?_setCell_other _ _ _ _ (by intro e2;injection e2 with _ e2;omega),a]
   have:acc.getD j 0=(acc++[v]).getD j 0:=by
    rw [List.getD_eq_getElem?_getD,List.getD_eq_getElem?_getD]
    by_cases hl:j<acc.length
    ·rw [List.getElem?_append_left hl]
    ·rw [List.getElem?_append_right (by omega),List.getElem?_eq_none (by omega),List.getElem?_eq_none (by simp;omega)]
   rw [this]
theorem Mem.zero {w wr:World} {acc:List Int} (h:Mem w wr acc):
  wr.cell? ⟨w.heap.size,0,none⟩=some (.int .u8 0)∧wr.cell? ⟨w.heap.size,1,none⟩=some (.int .u8 0)∧wr.cell? ⟨w.heap.size,2,none⟩=some (.int .u8 0)∧wr.cell? ⟨w.heap.size,3,none⟩=some (.int .u8 0)∧
  wr.frozen? ⟨w.heap.size,0,none⟩=false∧wr.frozen? ⟨w.heap.size,1,none⟩=false∧wr.frozen? ⟨w.heap.size,2,none⟩=false∧wr.frozen? ⟨w.heap.size,3,none⟩=false∧
  wr.setCell ⟨w.heap.size,0,none⟩ (.int .u8 0)=wr∧wr.setCell ⟨w.heap.size,1,none⟩ (.int .u8 0)=wr∧wr.setCell ⟨w.heap.size,2,none⟩ (.int .u8 0)=wr∧wr.setCell ⟨w.heap.size,3,none⟩ (.int .u8 0)=wr:=by
 have g:=h.1
 exact ⟨(g 0 (by decide)).1,(g 1 (by decide)).1,(g 2 (by decide)).1,(g 3 (by decide)).1,(g 0 (by decide)).2,(g 1 (by decide)).2,(g 2 (by decide)).2,(g 3 (by decide)).2,
  setCell_id _ _ _ _ (g 0 (by decide)).1,setCell_id _ _ _ _ (g 1 (by decide)).1,setCell_id _ _ _ _ (g 2 (by decide)).1,setCell_id _ _ _ _ (g 3 (by decide)).1⟩
set_option maxRecDepth 100000 in
set_option maxHeartbeats 8000000 in
theorem parseAddr_short (s:ByteArray) (hs:s.size≤253) (hsz: ∀ p ∈ parts s,p.size≤253) (hsum: ∀ k,sumAt 0 ((parts s).take k)≤254) (hlast: ∀ k,k<(parts s).length→((s.size:Int)<sumAt 0 ((parts s).take (k+1))↔k+1=(parts s).length)) (w:World) (hS:StdW w):
  Calls Tryz.prog 139 #[.string s] w (PAPost (paRes s) w):=by
 have HSP:=Lib.hid (fun W (h:StdW W)=>split_dots s (by omega) W h)
 have HS:=Lib.hid hS
 have HPA:=Lib.hid (show paRes s=_ by unfold paRes;rw [if_neg (show ¬ 253<s.size by omega)])
 have HSZ:=Lib.hid hsz
 have HSUM:=Lib.hid hsum
 have HLAST:=Lib.hid hlast
 clear hS hsz hsum hlast
 have HW:=Lib.hid (fun a c W=>wrong_any a _ [] c W (show ErrIs W (.iface 30 (.int .i64 c)) [] c from rfl))
 have hn0:=parts_pos s
 have hn1:=parts_le s
 go_enter Tryz.func139,Tryz.ntmps139
 go_wp2_with (go_at_call 50;refine (HSP.out _ (StdW.below HS.out (below_alloc (below_alloc (Below.refl _ _) _) _))).mono ?_;rintro e w1 ⟨rfl,hc,hlt1,hb1⟩)
 have HB1:Hid (Below w.heap.size w w1):=Lib.hid (below_then (below_alloc (below_alloc (Below.refl _ _) _) _) (below_alloc (below_alloc (Below.refl _ _) _) _).size hb1)
 have HM:Hid (Mem w w1 []):=by
  refine Mem.below (wr:=(w.alloc (.cells #[.int .u8 0,.int .u8 0,.int .u8 0,.int .u8 0] 37)).alloc (.cells #[.int .u8 0,.int .u8 0,.int .u8 0,.int .u8 0] 218)) ⟨fun j hj=>?_,fun j hj=>?_,by simp⟩ hb1
  ·rw [World.cell?_alloc_lt _ _ _ (by simp),World.cell?_alloc_new]
   refine ⟨?_,by simp⟩
   match j,hj with
   |0,_=>rfl
   |1,_=>rfl
   |2,_=>rfl
   |3,_=>rfl
  ·refine ⟨(World.cell?_alloc_at _ _ _ _ (by simp)).trans ?_,by simp⟩
   match j,hj with
   |0,_=>rfl
   |1,_=>rfl
   |2,_=>rfl
   |3,_=>rfl
 have HC:=Lib.hid hc
 have hlt1':w.heap.size+1+1<w1.heap.size:=by simpa using hlt1
 clear hc hb1 hlt1
 generalize hl:parts s=l at HC hn0 hn1 HPA HSZ HSUM HLAST ⊢
 have HL:=Lib.hid hl
 clear hl
 have HC2:Hid (∀ j,(h:j<l.length)→w1.cell? ⟨w.heap.size+1+1,j,none⟩=some (.string l[j])):=Lib.hid (fun j hj=>by have h:=HC.out j hj;simp only [World.size_alloc] at h;exact h)
 clear HC
 go_loopw [5,19] (fun a i wr=> ∃ (k q:Nat) (acc:List Int),k≤l.length∧k≤4∧i= .int .i64 k∧a= .int .i64 q∧q≤254∧Hid (acc.length=k)∧Hid (q=sumAt 0 (l.take k))∧Hid (k=l.length→k=4)∧Hid (paRes s=paLoop s.size k q (l.drop k) acc)∧Hid (Mem w wr acc)∧Hid (Below w.heap.size w wr)∧Hid (∀ j,(h:j<l.length)→wr.cell? ⟨w.heap.size+1+1,j,none⟩=some (.string l[j]))) (fun _ i _=>l.length - (intOf i).toNat)
 case atStart=>exact ⟨0,0,[],Nat.zero_le _,by omega,rfl,rfl,by omega,rfl,rfl,Lib.hid (by omega),Lib.hid (by rw [HPA.out];rfl),HM,HB1,HC2⟩
 case round=>
  obtain ⟨k,q,acc,hk,hk4,rfl,rfl,hq,HAL,HQ,HKL,HP,HMR,HBR,HCR⟩:=hrel
  by_cases hlt:k<l.length
  ·have hk0:(0:Int)≤(k:Int):=Int.natCast_nonneg _
   have hk1:(k:Int)<(l.length:Int):=by omega
   have hcell:=HCR.out k hlt
   have hpsz:l[k].size≤253:=HSZ.out _ (List.getElem_mem _)
   have hq1:=HSUM.out (k+1)
   rw [List.take_succ_eq_append_getElem hlt,sumAt_append,← HQ.out] at hq1
   have HLA:=Lib.hid (HLAST.out k hlt)
   rw [List.take_succ_eq_append_getElem hlt,sumAt_append,← HQ.out] at HLA
   rw [List.drop_eq_getElem_cons hlt] at HP
   have HQ1:Hid (q+l[k].size+1=sumAt 0 (l.take (k+1))):=by
    rw [List.take_succ_eq_append_getElem hlt,sumAt_append,← HQ.out];exact rfl
   generalize l[k]=p at hcell hpsz hq1 HLA HP HQ1
   have HN:=Lib.hid (fun W h=>hnumber_any p 255 (by omega) W h)
   have hBK:w.heap.size+1+1<w.heap.size+1+1+1:=by omega
   unfold paLoop at HP
   by_cases h4:k=4
   ·subst h4
    have HP4:Hid (paRes s= .inl ((q:Int),63)):=by rw [if_pos (show ((4:Nat):Int)=4 from rfl)] at HP;exact HP
    clear HP
    generalize atoiV p.data.toList=v at HN
    generalize numOk p.data.toList 255=ok at HN
    go_wp2_with (first|(go_at_call 179;refine (HN.out _ (StdW.below HS.out HBR.out)).mono ?_;rintro e w2 ⟨rfl,hb2⟩)|(go_at_call 133;refine (HW.out _ _ _).mono ?_;rintro e w3 ⟨u,rfl,he,hb3⟩;obtain ⟨c0,c1,c2,c3,f0,f1,f2,f3,s0,s1,s2,s3⟩:=((HMR.out.below hb2).below hb3).zero))
    refine bodyPost_ret (v:= .tuple #[.agg #[.int .u8 0,.int .u8 0,.int .u8 0,.int .u8 0],u]) (by simp [results,Tryz.results139,go_sem,c0,c1,c2,c3]) rfl ⟨?_,?_⟩
    ·exact below_then (below_then HBR.out HBR.out.size hb2) (below_then HBR.out HBR.out.size hb2).size hb3
    ·rw [HP4.out]
     exact ⟨u,rfl,he⟩
   ·have h4':((k:Int)==4)=false:=by rw [beq_eq_false_iff_ne];omega
    have hk3:(k:Int)<4:=by omega
    rw [if_neg (show ¬ (k:Int)=4 by omega)] at HP
    cases hok:numOk p.data.toList 255
    ·have HPE:Hid (paRes s= .inl ((q:Int),60)):=by rw [if_pos hok] at HP;exact HP
     rw [hok] at HN
     clear HP hok
     generalize atoiV p.data.toList=v at HN
     go_wp2_with (first|(go_at_call 179;refine (HN.out _ (StdW.below HS.out HBR.out)).mono ?_;rintro e w2 ⟨rfl,hb2⟩;have HB5:Hid (Below w.heap.size w w2):=Lib.hid (below_then HBR.out HBR.out.size hb2))|(go_at_call 133;refine (HW.out _ _ _).mono ?_;rintro e w3 ⟨u,rfl,he,hb3⟩;obtain ⟨c0,c1,c2,c3,f0,f1,f2,f3,s0,s1,s2,s3⟩:=((HMR.out.below hb2).below hb3).zero))
     refine bodyPost_ret (v:= .tuple #[.agg #[.int .u8 0,.int .u8 0,.int .u8 0,.int .u8 0],u]) (by simp [results,Tryz.results139,go_sem,c0,c1,c2,c3]) rfl ⟨?_,?_⟩
     ·exact below_then HB5.out HB5.out.size hb3
     ·rw [HPE.out]
      exact ⟨u,rfl,he⟩
    ·have hvb:=numOk_bounds _ _ hok
     obtain ⟨hv0,hv1,-,-⟩:=hvb
     rw [if_neg (show ¬ numOk p.data.toList 255=false by rw [hok];simp)] at HP
     rw [hok] at HN
     clear hok
     generalize atoiV p.data.toList=v at HN HP hv0 hv1
     by_cases hlst:k+1=l.length
     ·have hgt:(s.size:Int)<(q:Int)+((p.size:Int)+1):=by have:=HLA.out.2 hlst;omega
      by_cases hk2:k<3
      ·have hk2':(k:Int)<3:=by omega
       have HPE:Hid (paRes s= .inl ((s.size:Int),63)):=by rw [if_pos ⟨by omega,hk2'⟩] at HP;exact HP
       clear HP
       have HLS:=Lib.hid hlst
       clear hlst
       go_wp2_with (first|(go_at_call 179;refine (HN.out _ (StdW.below HS.out HBR.out)).mono ?_;rintro e w2 ⟨rfl,hb2⟩;have hm2:=HMR.out.below hb2;have HB4:Hid (Below w.heap.size w w2):=Lib.hid (below_then HBR.out HBR.out.size hb2);have hcb:=(hm2.2.1 k (by omega)).1;have hfb:=(hm2.2.1 k (by omega)).2;have HM2:=Lib.hid hm2;clear hm2)|(go_at_call 133;have HB5:Hid (Below w.heap.size w (w2.setCell ⟨w.heap.size+1,k,none⟩ (.int .u8 v))):=Lib.hid (HB4.out.setCell (by simp) _);refine (HW.out _ _ _).mono ?_;rintro e w3 ⟨u,rfl,he,hb3⟩;obtain ⟨c0,c1,c2,c3,f0,f1,f2,f3,s0,s1,s2,s3⟩:=((HM2.out.put HAL.out (by omega) v).below hb3).zero))
       refine bodyPost_ret (v:= .tuple #[.agg #[.int .u8 0,.int .u8 0,.int .u8 0,.int .u8 0],u]) (by simp [results,Tryz.results139,go_sem,c0,c1,c2,c3]) rfl ⟨?_,?_⟩
       ·exact below_then HB5.out HB5.out.size hb3
       ·rw [HPE.out]
        exact ⟨u,rfl,he⟩
      ·have hk2': ¬ (k:Int)<3:=by omega
       have hk2'':decide ((k:Int)<3)=false:=decide_eq_false hk2'
       rw [if_neg (by rintro ⟨_,h⟩;exact hk2' h)] at HP
       have HLS:=Lib.hid hlst
       clear hlst
       go_wp2_with (first|(go_at_call 179;refine (HN.out _ (StdW.below HS.out HBR.out)).mono ?_;rintro e w2 ⟨rfl,hb2⟩;have hm2:=HMR.out.below hb2;have HB4:Hid (Below w.heap.size w w2):=Lib.hid (below_then HBR.out HBR.out.size hb2);have hcb:=(hm2.2.1 k (by omega)).1;have hfb:=(hm2.2.1 k (by omega)).2;have HM2:=Lib.hid hm2;clear hm2))
       go_roundw
       case rel=>exact ⟨k+1,q+p.size+1,acc++[v],by omega,by omega,by go_num,by go_num,by omega,Lib.hid (by rw [List.length_append,HAL.out];rfl),HQ1,Lib.hid (fun _=>by omega),HP,Lib.hid (HM2.out.put HAL.out (by omega) v),Lib.hid (HB4.out.setCell (by simp) _),Lib.hid (fun j hj=>(World.cell?_setCell_other _ _ _ _ (by intro e;injection e with e;omega)).trans (pw_cell_below hb2 (HCR.out j hj)))⟩
       case measure=>simp [intOf];omega
     ·have hgt: ¬ (s.size:Int)<(q:Int)+((p.size:Int)+1):=by
       intro h
       exact hlst (HLA.out.1 (by omega))
      rw [if_neg (by rintro ⟨h,_⟩;omega)] at HP
      go_wp2_with (first|(go_at_call 179;refine (HN.out _ (StdW.below HS.out HBR.out)).mono ?_;rintro e w2 ⟨rfl,hb2⟩;have hm2:=HMR.out.below hb2;have HB4:Hid (Below w.heap.size w w2):=Lib.hid (below_then HBR.out HBR.out.size hb2);have hcb:=(hm2.2.1 k (by omega)).1;have hfb:=(hm2.2.1 k (by omega)).2;have HM2:=Lib.hid hm2;clear hm2))
      go_roundw
      case rel=>exact ⟨k+1,q+p.size+1,acc++[v],by omega,by omega,by go_num,by go_num,by omega,Lib.hid (by rw [List.length_append,HAL.out];rfl),HQ1,Lib.hid (fun h=>absurd h hlst),HP,Lib.hid (HM2.out.put HAL.out (by omega) v),Lib.hid (HB4.out.setCell (by simp) _),Lib.hid (fun j hj=>(World.cell?_setCell_other _ _ _ _ (by intro e;injection e with e;omega)).trans (pw_cell_below hb2 (HCR.out j hj)))⟩
      case measure=>simp [intOf];omega
  ·have hkl:k=l.length:=by omega
   have h4:k=4:=HKL.out hkl
   rw [hkl,List.drop_length] at HP
   have HPE:Hid (paRes s= .inr acc):=HP
   have HA4:Hid (acc.length=4):=Lib.hid (HAL.out.trans h4)
   obtain ⟨c0,c1,c2,c3,f0,f1,f2,f3,-,-,-,-⟩:=HMR.out.zero
   have d0:=(HMR.out.2.1 0 (by decide)).1
   have d1:=(HMR.out.2.1 1 (by decide)).1
   have d2:=(HMR.out.2.1 2 (by decide)).1
   have d3:=(HMR.out.2.1 3 (by decide)).1
   clear HP h4 hkl
   have HEND:Hid (∀ wx,Below w.heap.size w wx→PAPost (paRes s) w (.returned (.tuple #[.agg #[.int .u8 (acc.getD 0 0),.int .u8 (acc.getD 1 0),.int .u8 (acc.getD 2 0),.int .u8 (acc.getD 3 0)],.nilIface])) wx):=Lib.hid (fun wx hb=>⟨hb,by rw [HPE.out];exact ⟨HA4.out,rfl⟩⟩)
   generalize acc.getD 0 0=x0 at d0 HEND
   generalize acc.getD 1 0=x1 at d1 HEND
   generalize acc.getD 2 0=x2 at d2 HEND
   generalize acc.getD 3 0=x3 at d3 HEND
   go_wp2
   refine bodyPost_ret (v:= .tuple #[.agg #[.int .u8 x0,.int .u8 x1,.int .u8 x2,.int .u8 x3],.nilIface]) (by simp [results,Tryz.results139,go_sem,c0,c1,c2,c3]) rfl (HEND.out _ ?_)
   exact (((HBR.out.setCell (Nat.le_refl _) _).setCell (Nat.le_refl _) _).setCell (Nat.le_refl _) _).setCell (Nat.le_refl _) _
theorem sumAt_last (l:List ByteArray) (k:Nat) (hk:k<l.length) (n:Nat) (hn:sumAt 0 l=n+1):((n:Int)<sumAt 0 (l.take (k+1))↔k+1=l.length):=by
 constructor
 ·intro h
  by_cases e:k+1=l.length
  ·exact e
  ·exfalso
   have hlt:k+1<l.length:=by omega
   have h1:=sumAt_take l (k+1+1)
   rw [List.take_succ_eq_append_getElem hlt,sumAt_append] at h1
   omega
 ·intro e
  rw [e,List.take_length,hn];omega
theorem parseAddr_any (s:ByteArray) (hs:s.size≤281474976710656) (w:World) (hS:StdW w):
  Calls Tryz.prog 139 #[.string s] w (PAPost (paRes s) w):=by
 by_cases h:s.size≤253
 ·refine parseAddr_short s h (fun p hp=>?_) (fun k=>?_) (fun k hk=>sumAt_last _ k hk _ (sumAt_parts s)) w hS
  ·have:=size_mem _ p hp;rw [sumAt_parts] at this;omega
  ·have:=sumAt_take (parts s) k;rw [sumAt_parts] at this;omega
 ·refine (parseAddr_long s (by omega) hs w).mono ?_
  rintro e w' ⟨v,rfl,he,hb⟩
  refine ⟨hb,?_⟩
  have:paRes s= .inl (253,3):=by unfold paRes;rw [if_pos (by omega)]
  rw [this]
  exact ⟨v,rfl,he⟩
def Blk (w:World) (R:Nat) (C:Array Value) (T:TypeId):Prop:=w.heap[R]? =some (.cells C T (0,0))
theorem Blk.cell {w:World} {R:Nat} {C:Array Value} {T:TypeId} (h:Blk w R C T) (j:Nat) (v:Value) (hj:C[j]? =some v):w.cell? ⟨R,j,none⟩=some v:=by
 unfold World.cell?;rw [show w.heap[R]? =_ from h];exact hj
theorem Blk.free {w:World} {R:Nat} {C:Array Value} {T:TypeId} (h:Blk w R C T) (j:Nat):w.frozen? ⟨R,j,none⟩=false:=by
 unfold World.frozen?;rw [show w.heap[R]? =_ from h];simp
theorem Blk.lt {w:World} {R:Nat} {C:Array Value} {T:TypeId} (h:Blk w R C T):R<w.heap.size:=(Array.getElem?_eq_some_iff.1 h).1
theorem Blk.below {w w1:World} {R:Nat} {C:Array Value} {T:TypeId} (h:Blk w R C T) (hb:Below w.heap.size w w1):Blk w1 R C T:=(hb.block R h.lt).trans h
theorem Blk.set {w:World} {R:Nat} {C:Array Value} {T:TypeId} (h:Blk w R C T) (j:Nat) (v:Value):Blk (w.setCell ⟨R,j,none⟩ v) R (C.setIfInBounds j v) T:=by
 unfold Blk World.setCell
 simp only [Option.isSome_none,Bool.false_eq_true,if_false]
 rw [Array.getElem?_modify,if_pos rfl,show w.heap[R]? =_ from h];rfl
theorem Blk.other {w:World} {R:Nat} {C:Array Value} {T:TypeId} (h:Blk w R C T) (p:Addr) (hp:R≠p.block) (v:Value):Blk (w.setCell p v) R C T:=(Below.heap_setCell _ _ _ _ hp).trans h
theorem Blk.new (w:World) (C:Array Value) (T:TypeId):Blk (w.alloc (.cells C T)) w.heap.size C T:=heap_alloc_new w _
theorem Blk.old {w:World} {R:Nat} {C:Array Value} {T:TypeId} (h:Blk w R C T) (o:Obj):Blk (w.alloc o) R C T:=(Below.heap_alloc _ _ _ h.lt).trans h
set_option maxRecDepth 100000 in
set_option maxHeartbeats 4000000 in
theorem fail_any (s:ByteArray) (at_ co:Int) (w:World):
  Calls Tryz.prog 68 #[.string s,.int .i64 at_,.int .i64 co] w fun e w'=>e= .returned (.agg #[.int .i64 1,.string s,.string ⟨#[]⟩,.string ⟨#[]⟩,.string ⟨#[]⟩,.int .i64 at_,.int .i64 0,.int .i64 0,.int .i64 0,.int .i64 co])∧Below w.heap.size w w':=by
 go_enter Tryz.func68,Tryz.ntmps68
 go_wp2
 refine bodyPost_ret (v:= .agg #[.int .i64 1,.string s,.string ⟨#[]⟩,.string ⟨#[]⟩,.string ⟨#[]⟩,.int .i64 at_,.int .i64 0,.int .i64 0,.int .i64 0,.int .i64 co]) (by simp [results,Tryz.results68,go_sem]) rfl ⟨rfl,below_alloc (below_alloc (Below.refl _ _) _) _⟩
def Fail.f (s:ByteArray) (at_ co:Int):Option (Int×ByteArray×ByteArray×ByteArray×ByteArray×Int×Int×Int×Int×Int):=some (1,s,⟨#[]⟩,⟨#[]⟩,⟨#[]⟩,at_,0,0,0,co)
theorem Fail.calls (s:ByteArray) (at_ co:Int) (r1:Int) (r2 r3 r4 r5:ByteArray) (r6 r7 r8 r9 r10:Int) (w:World) (hS_:StdW w) (h:Fail.f s at_ co=some (r1,r2,r3,r4,r5,r6,r7,r8,r9,r10)):
  Calls Tryz.prog 68 #[.string s,.int .i64 at_,.int .i64 co] w fun e w'=>e= .returned (.agg #[.int .i64 r1,.string r2,.string r3,.string r4,.string r5,.int .i64 r6,.int .i64 r7,.int .i64 r8,.int .i64 r9,.int .i64 r10])∧Below w.heap.size w w':=by
 cases h
 exact fail_any s at_ co w
def lowI (x:Int):Int:=if 65≤x∧x≤90 then x+32 else x
def lowAt (s:ByteArray) (k j:Nat):Int:=if j<k then lowI (s.data.toList.getD j 0).toNat else (s.data.toList.getD j 0).toNat
theorem lowI_byte (b:UInt8):lowI b.toNat=(Lib.lowerB b).toNat:=by
 have h: ∀ n:Fin 256,lowI (UInt8.ofNat n.1).toNat=(Lib.lowerB (UInt8.ofNat n.1)).toNat:=by decide+kernel
 have:=h ⟨b.toNat,b.toNat_lt⟩
 simpa using this
def LowMem (s:ByteArray) (R k:Nat) (w:World):Prop:= ∀ j,j<s.size→w.cell? ⟨R,j,none⟩=some (.int .u8 (lowAt s k j))∧w.frozen? ⟨R,j,none⟩=false
theorem LowMem.keep {s:ByteArray} {R k:Nat} {w:World} (h:LowMem s R k w) (hk:lowI (s.data.toList.getD k 0).toNat=(s.data.toList.getD k 0).toNat):LowMem s R (k+1) w:=fun j hj=>by
 have e:lowAt s (k+1) j=lowAt s k j:=by
  unfold lowAt
  by_cases h1:j<k
  ·rw [if_pos h1,if_pos (by omega)]
  ·by_cases h2:j=k
   ·subst h2;rw [if_pos (by omega),if_neg h1,hk]
   ·rw [if_neg (by omega),if_neg h1]
 rw [e];exact h j hj
theorem LowMem.put {s:ByteArray} {R k:Nat} {w:World} (h:LowMem s R k w) (hk:k<s.size):LowMem s R (k+1) (w.setCell ⟨R,k,none⟩ (.int .u8 (lowI (s.data.toList.getD k 0).toNat))):=fun j hj=>by
 obtain ⟨a,b⟩:=h j hj
 rw [World.frozen?_setCell]
 refine ⟨?_,b⟩
 by_cases e:j=k
 ·subst e
  rw [World.cell?_setCell_same _ _ _ a]
  unfold lowAt
  rw [if_pos (by omega)]
 ·rw [World.cell?_setCell_other _ _ _ _ (by intro e2;injection e2 with _ e2;omega),a]
  unfold lowAt
  by_cases h1:j<k
  ·rw [if_pos h1,if_pos (by omega)]
  ·rw [if_neg h1,if_neg (by omega)]
set_option maxRecDepth 100000 in
set_option maxHeartbeats 4000000 in
theorem lower_any (s:ByteArray) (hs:s.size≤281474976710656) (w:World):
  Calls Tryz.prog 29 #[.string s] w fun e w'=>e= .returned (.string ⟨(Lib.toLowerA s.data.toList).toArray⟩)∧Below w.heap.size w w':=by
 have hcv:=Lib.run_convert_string_bytes (P:=Tryz.prog) w 9 22 5 s Tryz.underlying9 Tryz.underlying22 Tryz.underlying5
 generalize hcap:grownCap w s.size 0 5=cap at hcv
 generalize hW:Lib.bytesWorld w 5 s=W at hcv
 have HB0:Hid (Below w.heap.size w W):=Lib.hid (hW▸Lib.bytesWorld_below _ _ _)
 have HM0:Hid (LowMem s w.heap.size 0 W):=Lib.hid (fun j hj=>by
  subst hW
  refine ⟨?_,?_⟩
  ·rw [Lib.bytesWorld_cell _ _ _ _ hj]
   unfold lowAt
   rw [if_neg (by omega)]
  ·unfold World.frozen?
   rw [Lib.bytesWorld_at_new]
   have hc:s.size≤(Lib.bytesCells w 5 s).size:=by
    unfold Lib.bytesCells
    rw [Array.size_append,Array.size_map];exact Nat.le_add_right _ _
   simp
   omega)
 clear hW hcap
 have HS:=Lib.hid hs
 clear hs
 go_enter Tryz.func29,Tryz.ntmps29
 go_wp2
 go_loopw [4] (fun i wr=> ∃ k:Nat,k≤s.size∧i= .int .i64 k∧Hid (LowMem s w.heap.size k wr)∧Hid (Below w.heap.size w wr)) (fun i _=>s.size - (intOf i).toNat)
 case atStart=>exact ⟨0,Nat.zero_le _,rfl,HM0,HB0⟩
 case round=>
  obtain ⟨k,hk,rfl,HM,HB⟩:=hrel
  clear HM0 HB0
  have hs1:(s.size:Int)≤281474976710656:=by have:=HS.out;omega
  by_cases hlt:k<s.size
  ·have hk0:(0:Int)≤(k:Int):=Int.natCast_nonneg _
   have hk1:(k:Int)<(s.size:Int):=by omega
   obtain ⟨hc,hf⟩:=HM.out k hlt
   have hR:=World.block_lt_of_cell? _ _ hc
   have hx:lowAt s k k=((s.data.toList.getD k 0).toNat:Int):=by unfold lowAt;rw [if_neg (by omega)]
   rw [hx] at hc
   have HKP:=Lib.hid (fun h=>HM.out.keep (k:=k) h)
   have HPT:=Lib.hid (HM.out.put hlt)
   have hb:=(s.data.toList.getD k 0).toNat_lt
   generalize (s.data.toList.getD k 0).toNat=x at hc HKP HPT hb
   have hb':(x:Int)<256:=by omega
   have hb0:(0:Int)≤(x:Int):=by omega
   by_cases h1:(65:Int)≤(x:Int)
   ·by_cases h2:(x:Int)≤90
    ·have he:lowI (x:Int)=(x:Int)+32:=by unfold lowI;rw [if_pos ⟨h1,h2⟩]
     rw [he] at HPT
     go_wp2
     go_roundw
     case rel=>exact ⟨k+1,by omega,by go_num,HPT,Lib.hid (HB.out.setCell (Nat.le_refl _) _)⟩
     case measure=>simp [intOf];omega
    ·have he:lowI (x:Int)=(x:Int):=by unfold lowI;rw [if_neg (fun h=>h2 h.2)]
     have h2':decide ((x:Int)≤90)=false:=decide_eq_false h2
     have hm:=HKP.out he
     go_wp2
     go_roundw
     case rel=>exact ⟨k+1,by omega,by go_num,Lib.hid hm,HB⟩
     case measure=>simp [intOf];omega
   ·have he:lowI (x:Int)=(x:Int):=by unfold lowI;rw [if_neg (fun h=>h1 h.1)]
    have h1':decide ((65:Int)≤(x:Int))=false:=decide_eq_false h1
    have hm:=HKP.out he
    go_wp2
    go_roundw
    case rel=>exact ⟨k+1,by omega,by go_num,Lib.hid hm,HB⟩
    case measure=>simp [intOf];omega
  ·have hk1:(k:Int)=(s.size:Int):=by omega
   have hkn:k=s.size:=by omega
   subst hkn
   have hz:(⟨(Lib.toLowerA s.data.toList).toArray⟩:ByteArray).size=s.size:=by
    show (Lib.toLowerA s.data.toList).toArray.size=_
    rw [List.size_toArray,Lib.toLowerA,List.length_map,Array.length_toList];rfl
   have hB:Lib.Bytes wr w.heap.size 0 ⟨(Lib.toLowerA s.data.toList).toArray⟩:=fun i hi=>by
    have hi':i<s.size:=by rw [hz] at hi;exact hi
    rw [Nat.zero_add,(HM.out i hi').1]
    unfold lowAt
    rw [if_pos hi',lowI_byte]
    have hl:i<s.data.toList.length:=by rw [Array.length_toList];exact hi'
    have hg:s.data.toList.getD i 0=s.data.toList[i]:=by rw [List.getD_eq_getElem?_getD,List.getElem?_eq_getElem hl];rfl
    have hm:(⟨(Lib.toLowerA s.data.toList).toArray⟩:ByteArray)[i]'hi=Lib.lowerB s.data.toList[i]:=by
     exact List.getElem_map (l:=s.data.toList) Lib.lowerB (i:=i) (h:=by rw [List.length_map];exact hl)
    rw [hm,hg]
   have hcv2:=Lib.run_convert_whole (P:=Tryz.prog) wr 22 5 9 Tryz.underlying22 Tryz.underlying5 Tryz.underlying9 w.heap.size 0 _ hB cap
   rw [hz] at hcv2
   go_wp2
   go_ret
   exact ⟨rfl,HB.out⟩
def Lower.f (s:ByteArray):Option ByteArray:=if s.size≤281474976710656 then some ⟨(Lib.toLowerA s.data.toList).toArray⟩ else none
theorem Lower.calls (s:ByteArray) (r:ByteArray) (w:World) (hS_:StdW w) (h:Lower.f s=some r):
  Calls Tryz.prog 29 #[.string s] w fun e w'=>e= .returned (.string r)∧Below w.heap.size w w':=by
 unfold Lower.f at h
 split at h
 ·rename_i hc
  obtain rfl:=Option.some.inj h
  exact lower_any s hc w
 ·cases h
end Go.Proofs.YtgmpdjjoefkndaaGreatDoor.E

namespace Go.Proofs.YtgmpdjjoefkndaaGreatDoor.XRf
open Go.Proofs.YtgmpdjjoefkndaaGreatDoor.XZ Go.RowKit Go.Proofs.YtgmpdjjoefkndaaGreatDoorW.PrintWords Go.Proofs.YtgmpdjjoefkndaaGreatDoorW.PrintLast Go.Proofs.YtgmpdjjoefkndaaGreatDoorW.PrintMore
attribute [local go_sem] max2_int min2_int max_two min_two max_three min_three max_four min_four
set_option linter.unusedVariables false
set_option linter.unusedSimpArgs false
def errW:Option Int→Value
 |none=> .nilIface
 |some c=> .iface 0 (.int .i64 c)
theorem errW_none:errW none= .nilIface:=rfl
theorem errW_some (c:Int):errW (some c)= .iface 0 (.int .i64 c):=rfl
theorem info3:(Tryz.prog.info? 3).map (fun i=>(i.zero,i.size,i.bytes))=some (some (.int .i64 0),1,8):=by kernel_rfl
theorem info9:(Tryz.prog.info? 9).map (fun i=>(i.zero,i.size,i.bytes))=some (some (.string ⟨#[]⟩),1,16):=by kernel_rfl
end Go.Proofs.YtgmpdjjoefkndaaGreatDoor.XRf
