/- The plain law: what FnExactReadDrawing computes is true at every input. -/
import Derived.Test.YtpemeboolahfkaaGreatDoorLFnExactReadDrawingc
import Derived.Lib.ItoaLen
namespace Go.Proofs.YtpemeboolahfkaaGreatDoor.Pure
open Go.RowKit Go.Proofs.YtpemeboolahfkaaGreatDoor.PFnExactReadDrawing Go.Proofs.YtpemeboolahfkaaGreatDoorW.PrintWords Go.Proofs.YtpemeboolahfkaaGreatDoorW.PrintLast Go.Proofs.YtpemeboolahfkaaGreatDoorW.PrintMore
set_option linter.unusedVariables false
set_option linter.unusedSimpArgs false

theorem facesFrom_all (pts : List S36) (fs : List S45) : ∀ (d i : Nat),facesFrom pts fs d i = true → ∀ j,i ≤ j → j < i + d → faceGood pts fs j = true
 | 0,i,_,j,h1,h2 => absurd h2 (by omega)
 | d + 1,i,h,j,h1,h2 => by
  rw [facesFrom_succ,Bool.and_eq_true] at h
  by_cases e : j = i
  ·rw [e]
   exact h.1
  ·exact facesFrom_all pts fs d (i + 1) h.2 j (by omega) (by omega)
theorem drawB_face {w h : Int} {pts : List S36} {fs : List S45} (hd : drawB w h pts fs = true) (i : Nat) (hi : i < fs.length) : ringOk pts (fs.getD i z45).f1 = true ∧ validB (ringP pts (fs.getD i z45).f1) = true:=by
 unfold drawB at hd
 simp only [Bool.and_eq_true] at hd
 have:=facesFrom_all pts fs fs.length 0 hd.2.2 i (by omega) (by omega)
 rw [faceGood_eq] at this
 simp only [Bool.and_eq_true] at this
 exact this.2.2
theorem drawB_valid {w h : Int} {pts : List S36} {fs : List S45} (hd : drawB w h pts fs = true) (hs : ShortP fs) (i : Nat) (hi : i < fs.length) : Valid (ringP pts (fs.getD i z45).f1) :=
 ((validB_eq (ringP pts (fs.getD i z45).f1) (by rw [ringP_length];exact (hs i hi).2) 1000 (Nat.le_refl _)).2.2).1 (drawB_face hd i hi).2

theorem bt_nat (s : ByteArray) (i : Nat) (h : i < s.data.toList.length) : bt s (i : Int) = ((s.data.toList[i]).toNat : Int):=by
 have h' : i < s.size:=by rw [data_length] at h;exact h
 unfold bt
 rw [Int.toNat_natCast,dif_pos h']
 rfl
theorem size_list (s : ByteArray) : s.size = s.data.toList.length:=(data_length s).symm
def toB (l : List UInt8) : ByteArray:=⟨l.toArray⟩
theorem data_toB (l : List UInt8) : (toB l).data.toList = l:=rfl
theorem toB_data (s : ByteArray) : toB s.data.toList = s:=rfl
theorem toB_inj {a b : List UInt8} (h : toB a = toB b) : a = b:=by rw [← data_toB a,h,data_toB]
theorem map_toB : ∀ l : List ByteArray,(l.map (·.data.toList)).map toB = l
 | [] => rfl
 | s :: l => by rw [List.map_cons,List.map_cons,map_toB l];rfl
theorem toList_toB (l : List UInt8) : (toB l).toList = l:=by rw [ByteArray.toList_eq];rfl
theorem toB_append (a b : List UInt8) : toB a ++ toB b = toB (a ++ b):=by
 apply ByteArray.ext
 rw [ByteArray.data_append]
 unfold toB
 simp
theorem toB_size (a : List UInt8) : (toB a).size = a.length:=by rw [size_list,data_toB]

/-- The value of a row of digits. -/
def valOf (ds : List UInt8) : Nat:=ds.foldl (fun n d => n * 10 + (d.toNat - 48)) 0
theorem head_append {l r : List UInt8} (h : l ≠ []) : (l ++ r).head? = l.head?:=by
 cases l with
 | nil => exact absurd rfl h
 | cons x l => rfl
def isDig (d : UInt8) : Prop:=48 ≤ d.toNat ∧ d.toNat ≤ 57
theorem valOf_snoc (l : List UInt8) (d : UInt8) : valOf (l ++ [d]) = valOf l * 10 + (d.toNat - 48):=by simp [valOf,List.foldl_append]
theorem decDigits_snoc (n d : Nat) (hn : 1 ≤ n) (hd : d < 10) : Lib.decDigits (n * 10 + d) = Lib.decDigits n ++ [UInt8.ofNat (48 + d)]:=by
 rw [Lib.decDigits,dif_neg (by omega),show (n * 10 + d) / 10 = n by omega,show (n * 10 + d) % 10 = d by omega]
theorem decDigits_zero : Lib.decDigits 0 = [48]:=by rw [Lib.decDigits,dif_pos (by omega)];rfl
theorem decDigits_ne (u : Nat) : Lib.decDigits u ≠ []:=by
 rw [Lib.decDigits]
 split <;> simp
theorem decDigits_head (u : Nat) (hu : 1 ≤ u) : (Lib.decDigits u).head? ≠ some 48:=by
 induction u using Nat.strongRecOn with
 | _ u ih =>
  rw [Lib.decDigits]
  split
  ·rename_i h
   intro e
   simp only [List.head?_cons,Option.some.injEq] at e
   have e2:=congrArg UInt8.toNat e
   rw [UInt8.toNat_ofNat'] at e2
   have e3 : (48 : UInt8).toNat = 48:=rfl
   rw [e3] at e2
   omega
  ·have:=ih (u / 10) (by omega) (by omega)
   rw [head_append (decDigits_ne _)]
   exact this
theorem canon_digits : ∀ (ds : List UInt8),ds ≠ [] → (∀ d ∈ ds,isDig d) → (ds.head? ≠ some 48 ∨ ds.length = 1) → Lib.decDigits (valOf ds) = ds:=by
 intro ds
 induction hn : ds.length generalizing ds with
 | zero => intro h;exact absurd (List.length_eq_zero_iff.1 hn) h
 | succ n ih =>
  intro hne hd hh
  obtain ⟨l,d,rfl⟩ : ∃ l d,ds = l ++ [d]:=⟨ds.dropLast,ds.getLast hne,(List.dropLast_concat_getLast hne).symm⟩
  have hdd:=hd d (by simp)
  unfold isDig at hdd
  have hb : UInt8.ofNat (48 + (d.toNat - 48)) = d:=by
   rw [show 48 + (d.toNat - 48) = d.toNat by omega]
   simp
  rw [valOf_snoc]
  by_cases hl : l = []
  ·subst hl
   rw [show valOf [] = 0 from rfl,Nat.zero_mul,Nat.zero_add,Lib.decDigits,dif_pos (by omega),hb]
   rfl
  ·have hh' : l.head? ≠ some 48:=by
    rcases hh with hh | hh
    ·rwa [head_append hl] at hh
    ·have : l.length = 0:=by rw [List.length_append,List.length_singleton] at hn;omega
     exact absurd (List.length_eq_zero_iff.1 this) hl
   have hl':=ih l (by simp at hn;omega) hl (fun d h => hd d (by simp [h])) (.inl hh')
   have hv : 1 ≤ valOf l:=by
    rcases Nat.eq_zero_or_pos (valOf l) with h | h
    ·rw [h,decDigits_zero] at hl'
     rw [← hl'] at hh'
     exact absurd rfl hh'
    ·exact h
   rw [decDigits_snoc _ _ hv (by omega),hl',hb]
theorem valOf_pos {ds : List UInt8} (hne : ds ≠ []) (hd : ∀ d ∈ ds,isDig d) (hh : ds.head? ≠ some 48) : 1 ≤ valOf ds:=by
 have:=canon_digits ds hne hd (.inl hh)
 rcases Nat.eq_zero_or_pos (valOf ds) with h | h
 ·rw [h,decDigits_zero] at this
  rw [← this] at hh
  exact absurd rfl hh
 ·exact h
theorem valOf_lt : ∀ (ds : List UInt8),(∀ d ∈ ds,isDig d) → valOf ds < 10 ^ ds.length:=by
 intro ds
 induction hn : ds.length generalizing ds with
 | zero => intro _;have:=List.length_eq_zero_iff.1 hn;subst this;decide
 | succ n ih =>
  intro hd
  have hne : ds ≠ []:=by rintro rfl;simp at hn
  obtain ⟨l,d,rfl⟩ : ∃ l d,ds = l ++ [d]:=⟨ds.dropLast,ds.getLast hne,(List.dropLast_concat_getLast hne).symm⟩
  have:=ih l (by simp at hn;omega) (fun d h => hd d (by simp [h]))
  have hdd:=hd d (by simp)
  unfold isDig at hdd
  rw [valOf_snoc,Nat.pow_succ]
  omega
/-- THE DECIMAL TEXT: which texts are some number's numeral. -/
theorem itoa_pos (ds : List UInt8) (hne : ds ≠ []) (hd : ∀ d ∈ ds,isDig d) : Lib.itoa (valOf ds : Int) = ds ↔ (ds.head? ≠ some 48 ∨ ds.length = 1):=by
 rw [Lib.itoa_nonneg]
 refine ⟨fun h => ?_,canon_digits ds hne hd⟩
 by_cases h0 : ds.head? = some 48
 ·right
  by_cases hv : valOf ds = 0
  ·rw [hv,decDigits_zero] at h
   rw [← h]
   rfl
  ·exact absurd (by rw [h];exact h0) (decDigits_head (valOf ds) (by omega))
 ·exact .inl h0
theorem itoa_minus (ds : List UInt8) (hne : ds ≠ []) (hd : ∀ d ∈ ds,isDig d) : Lib.itoa (-(valOf ds : Int)) = 45 :: ds ↔ ds.head? ≠ some 48:=by
 by_cases hv : valOf ds = 0
 ·rw [hv]
  have e : Lib.itoa (-((0 : Nat) : Int)) = [48]:=by
   have:=Lib.itoa_nonneg 0
   rw [decDigits_zero] at this
   exact this
  rw [e]
  refine ⟨fun h => by simp at h,fun h => ?_⟩
  have:=valOf_pos hne hd h
  omega
 ·rw [Lib.itoa_neg _ (by omega),List.cons.injEq]
  refine ⟨fun h h0 => decDigits_head (valOf ds) (by omega) (by rw [h.2];exact h0),fun h => ⟨rfl,canon_digits ds hne hd (.inl h)⟩⟩

theorem impl_dec (v : Int) (h0 : -9223372036854775808 ≤ v) (h1 : v ≤ 9223372036854775807) : impl_Decimal.f v = some (toB (Lib.itoa v)):=by
 unfold impl_Decimal.f strconv_FormatInt_58.f
 rw [if_pos rfl,if_pos h0,if_pos h1]
 rfl

def digs (l : List UInt8) : Bool:=l.all fun d => decide (48 ≤ d.toNat) && decide (d.toNat ≤ 57)
theorem digs_iff (l : List UInt8) : digs l = true ↔ ∀ d ∈ l,isDig d:=by
 unfold digs isDig
 rw [List.all_eq_true]
 refine ⟨fun h d hd => ?_,fun h d hd => ?_⟩
 ·have:=h d hd
  rw [Bool.and_eq_true,decide_eq_true_eq,decide_eq_true_eq] at this
  exact this
 ·have:=h d hd
  rw [Bool.and_eq_true,decide_eq_true_eq,decide_eq_true_eq]
  exact this
theorem digs_cons (d : UInt8) (l : List UInt8) : digs (d :: l) = (decide (48 ≤ d.toNat) && decide (d.toNat ≤ 57) && digs l):=rfl
def valFrom (n : Nat) (l : List UInt8) : Nat:=l.foldl (fun n d => n * 10 + (d.toNat - 48)) n
theorem valFrom_cons (n : Nat) (d : UInt8) (l : List UInt8) : valFrom n (d :: l) = valFrom (n * 10 + (d.toNat - 48)) l:=by
 unfold valFrom
 rw [List.foldl_cons]
theorem num_step (C n d m : Nat) (h : (n + 1) * 10 ^ (m + 1) ≤ C) (hd : d ≤ 9) : (n * 10 + d + 1) * 10 ^ m ≤ C ∧ n * 10 + d < C:=by
 rw [Nat.pow_succ] at h
 have h1 : (n * 10 + d + 1) * 10 ^ m ≤ (n + 1) * (10 ^ m * 10):=by
  have : (n + 1) * (10 ^ m * 10) = ((n + 1) * 10) * 10 ^ m:=by
   rw [Nat.mul_comm (10 ^ m) 10,← Nat.mul_assoc]
  rw [this]
  exact Nat.mul_le_mul_right _ (by omega)
 have h2 : n * 10 + d + 1 ≤ (n * 10 + d + 1) * 10 ^ m:=Nat.le_mul_of_pos_right _ (Nat.pow_pos (by omega))
 omega
theorem digit_eq (d : UInt8) : spec_l01Digit.f ((d.toNat : Nat) : Int) = some (decide (48 ≤ d.toNat) && decide (d.toNat ≤ 57)):=by
 unfold spec_l01Digit.f
 by_cases h : 48 ≤ d.toNat
 ·rw [if_pos (by omega)]
  by_cases h2 : d.toNat ≤ 57
  ·rw [decide_eq_true h,decide_eq_true h2,decide_eq_true (by omega)];rfl
  ·rw [decide_eq_true h,decide_eq_false h2,decide_eq_false (by omega)];rfl
 ·rw [if_neg (by omega),decide_eq_false h];rfl
/-- What the digits of a text end in. -/
def numEnd (a : Int) (n : Nat) (l : List UInt8) : Int × Bool:=if digs l = true then (if a = 1 then (-((valFrom n l : Nat) : Int),true) else (((valFrom n l : Nat) : Int),true)) else (0,false)
theorem spec_num_loop (C : Nat) (hC : C = 1000000000000000000) (s : ByteArray) (a : Int) (hl : s.data.toList.length ≤ 1000) : ∀ (d i n k : Nat),i + d = s.data.toList.length → d < k → (n + 1) * 10 ^ d ≤ C →
  spec_l01Number.l0 k s a n i = some (numEnd a n (s.data.toList.drop i))
 | d,i,n,0,_,h,_ => absurd h (Nat.not_lt_zero _)
 | 0,i,n,k + 1,h,_,hn => by
  rw [spec_l01Number.l0,size_list,if_neg (by omega),List.drop_eq_nil_of_le (by omega)]
  have hn' : n < C:=by rw [Nat.pow_zero,Nat.mul_one] at hn;omega
  rw [w64 (by omega) (by omega)]
  unfold numEnd
  rw [if_pos (show digs [] = true from rfl)]
  by_cases ha : a = 1
  ·rw [if_pos ha,if_pos ha];rfl
  ·rw [if_neg ha,if_neg ha];rfl
 | d + 1,i,n,k + 1,h,hk,hn => by
  have hi : i < s.data.toList.length:=by omega
  rw [spec_l01Number.l0,size_list,if_pos (by omega),if_pos (by omega),bt_nat s i hi,digit_eq,Option.bind_some,List.drop_eq_getElem_cons hi]
  unfold numEnd
  rw [digs_cons]
  by_cases hd : (decide (48 ≤ (s.data.toList[i]).toNat) && decide ((s.data.toList[i]).toNat ≤ 57)) = true
  ·have hd' : 48 ≤ (s.data.toList[i]).toNat ∧ (s.data.toList[i]).toNat ≤ 57:=by simpa using hd
   obtain ⟨q1,q2⟩:=num_step C n ((s.data.toList[i]).toNat - 48) d hn (by omega)
   have e1 : wrap64 (wrap64 (10 * (n : Int)) + (((s.data.toList[i]).toNat : Int) - 48) % 256) = ((n * 10 + ((s.data.toList[i]).toNat - 48) : Nat) : Int):=by
    rw [w64 (x:=10 * (n : Int)) (by omega) (by omega),w64 (by omega) (by omega)]
    omega
   have e2 : wrap64 ((i : Int) + 1) = ((i + 1 : Nat) : Int):=by rw [w64 (by omega) (by omega)];omega
   rw [if_pos hd,e1,e2,spec_num_loop C hC s a hl d (i + 1) _ k (by omega) (by omega) q1,valFrom_cons,hd,Bool.true_and]
   rfl
  ·rw [if_neg hd]
   have hd' : (decide (48 ≤ (s.data.toList[i]).toNat) && decide ((s.data.toList[i]).toNat ≤ 57)) = false:=by simpa using hd
   rw [hd',Bool.false_and]
   rfl
/-- What the program's digits end in. -/
def backEnd (x0 : ByteArray) (l : Nat) (v : Nat) : Int × Bool :=
 if l < x0.data.toList.length then (if Lib.itoa (-(v : Int)) = x0.data.toList then (-(v : Int),true) else (0,false)) else (if Lib.itoa (v : Int) = x0.data.toList then ((v : Int),true) else (0,false))
theorem impl_num_loop (C : Nat) (hC : C = 1000000000000000000) (x0 s : ByteArray) (hl : s.data.toList.length ≤ 1000) : ∀ (d i n k : Nat),i + d = s.data.toList.length → d < k → (n + 1) * 10 ^ d ≤ C →
  impl_ReadDecimal.l0 k x0 s n i = some (if digs (s.data.toList.drop i) = true then backEnd x0 s.data.toList.length (valFrom n (s.data.toList.drop i)) else (0,false))
 | d,i,n,0,_,h,_ => absurd h (Nat.not_lt_zero _)
 | 0,i,n,k + 1,h,_,hn => by
  rw [impl_ReadDecimal.l0,size_list,size_list,if_neg (by omega),List.drop_eq_nil_of_le (by omega)]
  have hn' : n < C:=by rw [Nat.pow_zero,Nat.mul_one] at hn;omega
  rw [w64 (x:=-(n : Int)) (by omega) (by omega),impl_dec _ (by omega) (by omega),impl_dec _ (by omega) (by omega)]
  simp only [Option.bind_some,ByteArray.toList_eq,data_toB]
  rw [if_pos (show digs [] = true from rfl),show valFrom n [] = n from rfl]
  unfold backEnd
  by_cases hc : s.data.toList.length < x0.data.toList.length
  ·rw [if_pos (by omega),if_pos hc]
   by_cases q : Lib.itoa (-(n : Int)) = x0.data.toList
   ·rw [if_pos q]
    exact if_pos q
   ·rw [if_neg q]
    exact if_neg q
  ·rw [if_neg (by omega),if_neg hc]
   by_cases q : Lib.itoa (n : Int) = x0.data.toList
   ·rw [if_pos q]
    exact if_pos q
   ·rw [if_neg q]
    exact if_neg q
 | d + 1,i,n,k + 1,h,hk,hn => by
  have hi : i < s.data.toList.length:=by omega
  rw [impl_ReadDecimal.l0,size_list s,if_pos (by omega),if_pos (by omega),bt_nat s i hi,List.drop_eq_getElem_cons hi,digs_cons]
  by_cases h1 : ((s.data.toList[i]).toNat : Int) < 48
  ·rw [if_pos h1,decide_eq_false (show ¬ 48 ≤ (s.data.toList[i]).toNat by omega),Bool.false_and,Bool.false_and]
   rfl
  ·rw [if_neg h1,decide_eq_true (show 48 ≤ (s.data.toList[i]).toNat by omega),Bool.true_and]
   by_cases h2 : ((s.data.toList[i]).toNat : Int) > 57
   ·rw [if_pos h2,decide_eq_false (show ¬ (s.data.toList[i]).toNat ≤ 57 by omega),Bool.false_and]
    rfl
   ·rw [if_neg h2,decide_eq_true (show (s.data.toList[i]).toNat ≤ 57 by omega),Bool.true_and]
    obtain ⟨q1,q2⟩:=num_step C n ((s.data.toList[i]).toNat - 48) d hn (by omega)
    have e1 : wrap64 (wrap64 ((n : Int) * 10) + (((s.data.toList[i]).toNat : Int) - 48) % 256) = ((n * 10 + ((s.data.toList[i]).toNat - 48) : Nat) : Int):=by
     rw [w64 (x:=(n : Int) * 10) (by omega) (by omega),w64 (by omega) (by omega)]
     omega
    have e2 : wrap64 ((i : Int) + 1) = ((i + 1 : Nat) : Int):=by rw [w64 (by omega) (by omega)];omega
    rw [e1,e2,impl_num_loop C hC x0 s hl d (i + 1) _ k (by omega) (by omega) q1,valFrom_cons]
/-- The number of a text. -/
def numOf (s : ByteArray) : Int × Bool :=
 let L:=s.data.toList
 if L.head? = some 45 then (if L.length ≤ 1 ∨ 19 < L.length ∨ L[1]? = some 48 then (0,false) else (if digs (L.drop 1) = true then (-((valOf (L.drop 1) : Nat) : Int),true) else (0,false)))
 else (if L.length = 0 ∨ 18 < L.length ∨ (L.head? = some 48 ∧ 1 < L.length) then (0,false) else (if digs L = true then (((valOf L : Nat) : Int),true) else (0,false)))
theorem numEnd_one (l : List UInt8) : numEnd 1 0 l = if digs l = true then (-((valOf l : Nat) : Int),true) else (0,false):=by
 unfold numEnd
 rw [if_pos rfl]
 rfl
theorem numEnd_zero (l : List UInt8) : numEnd 0 0 l = if digs l = true then (((valOf l : Nat) : Int),true) else (0,false):=by
 unfold numEnd
 rw [if_neg (show ¬ (0 : Int) = 1 by omega)]
 rfl
theorem pow_le {C d : Nat} (hC : C = 1000000000000000000) (h : d ≤ 18) : ((0 : Nat) + 1) * 10 ^ d ≤ C:=by
 have : 10 ^ d ≤ 10 ^ 18:=Nat.pow_le_pow_right (by omega) h
 have e : (10 : Nat) ^ 18 = C:=by rw [hC]
 omega
theorem u8_toNat (d : UInt8) (n : UInt8) : ((d.toNat : Nat) : Int) = ((n.toNat : Nat) : Int) ↔ d = n:=by
 refine ⟨fun h => ?_,fun h => by rw [h]⟩
 have : d.toNat = n.toNat:=by omega
 exact UInt8.toNat_inj.1 this
theorem spec_num_tail (s : ByteArray) (hs : s.size ≤ 1000000000000) (k : Nat) (hk : 27 ≤ k) (a : Nat) (ha : a ≤ s.data.toList.length) (ha1 : a ≤ 1) :
  spec_l01Number.j1 (k + 2) s (a : Int) = some (if s.data.toList.length = a ∨ 18 < s.data.toList.length - a ∨ (s.data.toList[a]? = some 48 ∧ 1 < s.data.toList.length) then (0,false) else numEnd a 0 (s.data.toList.drop a)):=by
 obtain ⟨C,hC⟩ : ∃ C : Nat,C = 1000000000000000000:=⟨_,rfl⟩
 have hsz:=size_list s
 rw [spec_l01Number.j1,hsz]
 have yes : spec_l01Number.j2 (k + 1) s (a : Int) true = some (0,false):=by rw [spec_l01Number.j2,if_pos rfl]
 by_cases c1 : s.data.toList.length = a
 ·rw [if_pos (by omega),yes,if_pos (.inl c1)]
 ·rw [if_neg (by omega),w64 (by omega) (by omega)]
  by_cases c2 : 18 < s.data.toList.length - a
  ·rw [if_pos (by omega),yes,if_pos (.inr (.inl c2))]
  ·have hlt : a < s.data.toList.length:=by omega
   have no : spec_l01Number.j2 (k + 1) s (a : Int) false = some (numEnd a 0 (s.data.toList.drop a)):=by
    rw [spec_l01Number.j2,if_neg (by decide)]
    exact spec_num_loop C hC s (a : Int) (by omega) (s.data.toList.length - a) a 0 k (by omega) (by omega) (pow_le hC (by omega))
   rw [if_neg (by omega),if_pos (by omega),if_pos (by omega),bt_nat s a hlt]
   have e48 : ((s.data.toList[a]).toNat : Int) = 48 ↔ s.data.toList[a]? = some 48:=by
    rw [List.getElem?_eq_getElem hlt,Option.some.injEq]
    exact u8_toNat _ 48
   by_cases c3 : ((s.data.toList[a]).toNat : Int) = 48
   ·rw [if_pos c3]
    by_cases c4 : 1 < s.data.toList.length
    ·rw [decide_eq_true (by omega),yes,if_pos (.inr (.inr ⟨e48.1 c3,c4⟩))]
    ·rw [decide_eq_false (by omega),no,if_neg (by intro h;rcases h with h | h | h;exact c1 h;exact c2 h;exact c4 h.2)]
   ·rw [if_neg c3,no,if_neg (by intro h;rcases h with h | h | h;exact c1 h;exact c2 h;exact c3 (e48.2 h.1))]
theorem spec_num_sign (s : ByteArray) (k : Nat) (neg : Bool) : spec_l01Number.j0 (k + 3) s 0 neg = spec_l01Number.j1 (k + 2) s (if neg = true then 1 else 0):=by
 rw [spec_l01Number.j0]
 cases neg
 ·rw [if_neg (by decide),if_neg (by decide)]
 ·rw [if_pos rfl,if_pos rfl]
theorem spec_num (s : ByteArray) (hs : s.size ≤ 1000000000000) (k : Nat) (hk : 30 ≤ k) : spec_l01Number.f k s = some (numOf s):=by
 obtain ⟨k,rfl⟩ : ∃ m,k = m + 3:=⟨k - 3,by omega⟩
 have hsz:=size_list s
 unfold spec_l01Number.f
 have sign:=fun (neg : Bool) => spec_num_sign s k neg
 have tail:=spec_num_tail s hs k (by omega)
 by_cases h0 : s.data.toList.length = 0
 ·have e : s.data.toList = []:=List.length_eq_zero_iff.1 h0
  rw [if_neg (by omega),sign false]
  have:=tail 0 (by omega) (by omega)
  rw [if_pos (.inl h0)] at this
  refine this.trans ?_
  unfold numOf
  rw [e]
  rfl
 ·have hlt : 0 < s.data.toList.length:=by omega
  have hh : s.data.toList.head? = some s.data.toList[0]:=by rw [List.head?_eq_getElem?,List.getElem?_eq_getElem hlt]
  rw [if_pos (by omega),if_pos (by omega),sign]
  have hb : bt s 0 = ((s.data.toList[0]).toNat : Int):=bt_nat s 0 hlt
  unfold numOf
  by_cases hm : s.data.toList.head? = some 45
  ·have h45 : bt s 0 = 45:=by
    rw [hb]
    rw [hh,Option.some.injEq] at hm
    rw [hm]
    rfl
   rw [h45]
   have:=tail 1 (by omega) (by omega)
   refine this.trans ?_
   simp only [hm,if_true]
   congr 1
   by_cases c : s.data.toList.length ≤ 1 ∨ 19 < s.data.toList.length ∨ s.data.toList[1]? = some 48
   ·rw [if_pos c,if_pos]
    rcases c with c | c | c
    ·exact .inl (by omega)
    ·exact .inr (.inl (by omega))
    ·refine .inr (.inr ⟨c,?_⟩)
     have:=(List.getElem?_eq_some_iff.1 c).1
     omega
   ·rw [if_neg c,if_neg,show ((1 : Nat) : Int) = 1 from rfl,numEnd_one]
    intro h
    refine c ?_
    rcases h with h | h | h
    ·exact .inl (by omega)
    ·exact .inr (.inl (by omega))
    ·exact .inr (.inr h.1)
  ·have h45 : (bt s 0 == 45) = false:=by
    rw [hb,beq_eq_false_iff_ne]
    intro h
    refine hm ?_
    rw [hh]
    congr 1
    exact (u8_toNat _ 45).1 h
   rw [h45]
   have:=tail 0 (by omega) (by omega)
   refine this.trans ?_
   rw [if_neg hm]
   congr 1
   have e0 : s.data.toList[0]? = s.data.toList.head?:=by rw [List.head?_eq_getElem?]
   rw [e0,Nat.sub_zero,show ((0 : Nat) : Int) = 0 from rfl,numEnd_zero,List.drop_zero]
theorem extract_one (s : ByteArray) : (s.extract 1 s.size).data.toList = s.data.toList.drop 1:=Lib.extract_to_end s 1
theorem impl_num (s : ByteArray) (hs : s.size ≤ 1000000000000) (k : Nat) (hk : 30 ≤ k) : impl_ReadDecimal.f k s = some (numOf s):=by
 obtain ⟨k,rfl⟩ : ∃ m,k = m + 3:=⟨k - 3,by omega⟩
 obtain ⟨C,hC⟩ : ∃ C : Nat,C = 1000000000000000000:=⟨_,rfl⟩
 have hsz:=size_list s
 -- the digits behind the sign
 have main : ∀ d : ByteArray,d.size ≤ 1000000000000 → impl_ReadDecimal.j0 (k + 3) s d = some (if d.data.toList.length = 0 ∨ 18 < d.data.toList.length then (0,false) else if digs d.data.toList = true then backEnd s d.data.toList.length (valOf d.data.toList) else (0,false)):=by
  intro d hd
  have hdz:=size_list d
  have yes : impl_ReadDecimal.j1 (k + 2) s d true = some (0,false):=by rw [impl_ReadDecimal.j1,if_pos rfl]
  rw [impl_ReadDecimal.j0,hdz]
  by_cases c1 : d.data.toList.length = 0
  ·rw [if_pos (by omega),yes,if_pos (.inl c1)]
  ·rw [if_neg (by omega)]
   by_cases c2 : 18 < d.data.toList.length
   ·rw [decide_eq_true (by omega),yes,if_pos (.inr c2)]
   ·rw [decide_eq_false (by omega),if_neg (by omega),impl_ReadDecimal.j1,if_neg (by decide)]
    have:=impl_num_loop C hC s d (by omega) d.data.toList.length 0 0 (k + 1) (by omega) (by omega) (pow_le hC (by omega))
    rw [List.drop_zero] at this
    exact this
 have pre : strings_HasPrefix.f s (⟨#[45]⟩ : ByteArray) = some (decide (s.data.toList.head? = some 45)):=by
  unfold strings_HasPrefix.f stringslite_HasPrefix.f
  have e1 : ((⟨#[45]⟩ : ByteArray).size : Int) = 1:=rfl
  rw [e1]
  by_cases h0 : s.data.toList.length = 0
  ·have e : s.data.toList = []:=List.length_eq_zero_iff.1 h0
   rw [if_neg (by omega),e]
   rfl
  ·rw [if_pos (by omega),if_pos (by omega),if_pos (by omega),Option.bind_some]
   congr 1
   simp only [ByteArray.toList_eq]
   have e2 : (s.extract 0 ((1 : Int)).toNat).data.toList = s.data.toList.take 1:=Lib.extract_from_zero s 1
   rw [e2]
   cases hL : s.data.toList with
   | nil => rw [hL] at h0;exact absurd rfl h0
   | cons x l => by_cases hx : x = 45 <;> simp [hx]
 unfold impl_ReadDecimal.f
 rw [pre,Option.bind_some]
 unfold numOf
 by_cases hm : s.data.toList.head? = some 45
 ·obtain ⟨l,hL⟩ : ∃ l,s.data.toList = 45 :: l:=by
   cases hL : s.data.toList with
   | nil => rw [hL] at hm;cases hm
   | cons x l => rw [hL] at hm;simp at hm;exact ⟨l,by rw [hm]⟩
  have hd:=main (s.extract 1 s.size) (by rw [size_list,extract_one,List.length_drop];omega)
  rw [extract_one] at hd
  rw [decide_eq_true hm,if_pos rfl,if_pos (by rw [hsz,hL];simp;omega),hd]
  simp only [hm,if_true]
  congr 1
  rw [hL]
  simp only [List.drop_succ_cons,List.drop_zero,List.length_cons,List.getElem?_cons_succ]
  by_cases c1 : l.length = 0 ∨ 18 < l.length
  ·rw [if_pos c1,if_pos (by rcases c1 with c | c;exact .inl (by omega);exact .inr (.inl (by omega)))]
  ·rw [if_neg c1]
   by_cases hdg : digs l = true
   ·have hne : l ≠ []:=by rintro rfl;exact c1 (.inl rfl)
    have hi:=itoa_minus l hne ((digs_iff l).1 hdg)
    unfold backEnd
    rw [hL,if_pos hdg,if_pos (by simp),hdg]
    simp only [if_true]
    have eh : l.head? = l[0]?:=by rw [List.head?_eq_getElem?]
    by_cases h48 : l.head? = some 48
    ·rw [if_neg (by rw [hi];exact fun h => h h48),if_pos (.inr (.inr (by rw [← eh];exact h48)))]
    ·rw [if_pos (hi.2 h48),if_neg]
     intro h
     rcases h with h | h | h
     ·exact c1 (.inl (by omega))
     ·exact c1 (.inr (by omega))
     ·exact h48 (by rw [eh];exact h)
   ·rw [if_neg hdg,if_neg hdg]
    split <;> rfl
 ·have hd:=main s hs
  rw [decide_eq_false hm,if_neg (by decide),hd,if_neg hm]
  congr 1
  by_cases c1 : s.data.toList.length = 0 ∨ 18 < s.data.toList.length
  ·rw [if_pos c1,if_pos (by rcases c1 with c | c;exact .inl c;exact .inr (.inl c))]
  ·rw [if_neg c1]
   by_cases hdg : digs s.data.toList = true
   ·have hne : s.data.toList ≠ []:=by intro h;exact c1 (.inl (by rw [h];rfl))
    have hi:=itoa_pos s.data.toList hne ((digs_iff _).1 hdg)
    unfold backEnd
    rw [if_pos hdg,if_neg (Nat.lt_irrefl _),hdg]
    simp only [if_true]
    by_cases h48 : s.data.toList.head? = some 48 ∧ 1 < s.data.toList.length
    ·rw [if_neg (by rw [hi];rintro (h | h);exact h h48.1;omega),if_pos (.inr (.inr h48))]
    ·rw [if_pos (hi.2 (by
      by_cases q : s.data.toList.head? = some 48
      ·right
       have : ¬ 1 < s.data.toList.length:=fun h => h48 ⟨q,h⟩
       omega
      ·exact .inl q)),if_neg]
     intro h
     rcases h with h | h | h
     ·exact c1 (.inl h)
     ·exact c1 (.inr h)
     ·exact h48 h
   ·rw [if_neg hdg,if_neg hdg]
    split <;> rfl

/-- The number of a row of bytes. -/
def numL (l : List UInt8) : Int × Bool:=numOf (toB l)
theorem numL_def (l : List UInt8) : numL l = if l.head? = some 45 then (if l.length ≤ 1 ∨ 19 < l.length ∨ l[1]? = some 48 then (0,false) else (if digs (l.drop 1) = true then (-((valOf (l.drop 1) : Nat) : Int),true) else (0,false)))
 else (if l.length = 0 ∨ 18 < l.length ∨ (l.head? = some 48 ∧ 1 < l.length) then (0,false) else (if digs l = true then (((valOf l : Nat) : Int),true) else (0,false))):=rfl
theorem digs_bad {l : List UInt8} {c : UInt8} (h : c ∈ l) (hc : c.toNat < 48) : digs l = false:=by
 rw [Bool.eq_false_iff]
 intro h2
 have:=(digs_iff l).1 h2 c h
 unfold isDig at this
 omega
/-- A text with a comma is no number. -/
theorem numL_comma {l : List UInt8} {c : UInt8} (h : c ∈ l) (hc : c.toNat < 48) (hc2 : c ≠ 45) : numL l = (0,false):=by
 rw [numL_def]
 by_cases h1 : l.head? = some 45
 ·rw [if_pos h1]
  have hd : c ∈ l.drop 1:=by
   cases l with
   | nil => cases h
   | cons x l =>
    simp at h1
    rcases List.mem_cons.1 h with e | e
    ·rw [e] at hc2;exact absurd h1 hc2
    ·exact e
  rw [digs_bad hd hc]
  simp
 ·rw [if_neg h1,digs_bad h hc]
  simp
theorem numOf_range (s : ByteArray) : -1000000000000000000 < (numOf s).1 ∧ (numOf s).1 < 1000000000000000000:=by
 have key : ∀ l : List UInt8,l.length ≤ 18 → digs l = true → ((valOf l : Nat) : Int) < 1000000000000000000:=by
  intro l hl hd
  have h:=valOf_lt l ((digs_iff l).1 hd)
  have h2 : 10 ^ l.length ≤ 10 ^ 18:=Nat.pow_le_pow_right (by omega) hl
  have h3 : (10 : Nat) ^ 18 = 1000000000000000000:=by decide
  omega
 unfold numOf
 dsimp only
 split
 ·split
  ·exact ⟨by decide,by decide⟩
  ·rename_i h
   split
   ·rename_i hd
    have:=key (s.data.toList.drop 1) (by rw [List.length_drop];omega) hd
    constructor
    ·show _ < -((valOf (s.data.toList.drop 1) : Nat) : Int)
     omega
    ·show -((valOf (s.data.toList.drop 1) : Nat) : Int) < _
     omega
   ·exact ⟨by decide,by decide⟩
 ·split
  ·exact ⟨by decide,by decide⟩
  ·rename_i h
   split
   ·rename_i hd
    have:=key s.data.toList (by omega) hd
    constructor
    ·show _ < ((valOf s.data.toList : Nat) : Int)
     omega
    ·exact this
   ·exact ⟨by decide,by decide⟩

/-- A text cut at each byte c. -/
def cutAll (c : UInt8) : List UInt8 → List (List UInt8)
 | [] => [[]]
 | x :: l => if x = c then [] :: cutAll c l else match cutAll c l with
  | [] => [[x]]
  | y :: r => (x :: y) :: r
/-- p put ahead of the first piece. -/
def glue (p : List UInt8) : List (List UInt8) → List (List UInt8)
 | [] => [p]
 | y :: r => (p ++ y) :: r
theorem cutAll_cons (c x : UInt8) (l : List UInt8) : cutAll c (x :: l) = if x = c then [] :: cutAll c l else glue [x] (cutAll c l):=by
 rw [cutAll]
 split
 ·rfl
 ·cases cutAll c l <;> rfl
theorem cutAll_ne (c : UInt8) : ∀ l : List UInt8,cutAll c l ≠ []
 | [] => by simp [cutAll]
 | x :: l => by
  rw [cutAll_cons]
  split
  ·simp
  ·cases cutAll c l <;> simp [glue]
theorem glue_glue (p q : List UInt8) (r : List (List UInt8)) (h : r ≠ []) : glue p (glue q r) = glue (p ++ q) r:=by
 cases r with
 | nil => exact absurd rfl h
 | cons y r => simp [glue]
theorem glue_nil (r : List (List UInt8)) (h : r ≠ []) : glue [] r = r:=by
 cases r with
 | nil => exact absurd rfl h
 | cons y r => rfl
theorem cutAll_index (c : UInt8) : ∀ l : List UInt8,(Lib.indexByte l c = -1 → cutAll c l = [l]) ∧ (∀ i : Nat,Lib.indexByte l c = i → cutAll c l = l.take i :: cutAll c (l.drop (i + 1)))
 | [] => ⟨fun _ => rfl,fun i h => by simp [Lib.indexByte] at h⟩
 | x :: l => by
  obtain ⟨h1,h2⟩:=cutAll_index c l
  have hge:=Lib.indexByte_ge l c
  rw [cutAll_cons]
  by_cases hx : x = c
  ·subst hx
   refine ⟨fun h => ?_,fun i h => ?_⟩
   ·simp [Lib.indexByte] at h
   ·have : i = 0:=by
     simp [Lib.indexByte] at h
     omega
    subst this
    rw [if_pos rfl]
    simp
  ·rw [if_neg hx]
   refine ⟨fun h => ?_,fun i h => ?_⟩
   ·have hl : Lib.indexByte l c = -1:=by
     unfold Lib.indexByte at h
     rw [if_neg (by simpa using hx)] at h
     split at h
     ·rename_i he;exact beq_iff_eq.1 he
     ·omega
    rw [h1 hl]
    rfl
   ·obtain ⟨j,hl,rfl⟩ : ∃ j : Nat,Lib.indexByte l c = j ∧ i = j + 1:=by
     unfold Lib.indexByte at h
     rw [if_neg (by simpa using hx)] at h
     split at h
     ·omega
     ·rename_i he
      have he' : Lib.indexByte l c ≠ -1:=fun e => he (beq_iff_eq.2 e)
      exact ⟨(Lib.indexByte l c).toNat,by omega,by omega⟩
    rw [h2 j hl]
    simp [glue]
theorem splitK_cutAll (c : UInt8) : ∀ (fuel : Nat) (s : List UInt8),s.length < fuel → Lib.splitK [c] 0 (Lib.countFrom [c] fuel s) s = cutAll c s
 | 0,s,h => absurd h (Nat.not_lt_zero _)
 | fuel + 1,s,h => by
  obtain ⟨h1,h2⟩:=cutAll_index c s
  have hge:=Lib.indexByte_ge s c
  rw [Lib.countFrom,Lib.index_one]
  by_cases hi : Lib.indexByte s c = -1
  ·rw [if_pos (beq_iff_eq.2 hi),h1 hi]
   rfl
  ·obtain ⟨i,hi'⟩ : ∃ i : Nat,Lib.indexByte s c = i:=⟨(Lib.indexByte s c).toNat,by omega⟩
   have hm : ¬ (Lib.indexByte s c == -1) = true:=fun e => hi (beq_iff_eq.1 e)
   rw [if_neg hm,h2 i hi',Nat.add_comm 1,Lib.splitK,Lib.index_one,if_neg hm,hi',Int.toNat_natCast]
   have hroom : i < s.length:=by
    have:=Lib.indexByte_some hi'
    have h3:=this.1
    by_cases hlt : i < s.length
    ·exact hlt
    ·rw [List.getElem?_eq_none (by omega)] at h3;cases h3
   have:=splitK_cutAll c fuel (s.drop (i + 1)) (by rw [List.length_drop];omega)
   simp only [Nat.add_zero,List.length_cons,List.length_nil,Nat.zero_add] at this ⊢
   rw [this]
theorem split_cutAll (c : UInt8) (s : List UInt8) : Lib.split s [c] = cutAll c s:=splitK_cutAll c _ s (by omega)

theorem cutAll_sizes (c : UInt8) : ∀ (s x : List UInt8),x ∈ cutAll c s → x.length ≤ s.length
 | [],x,h => by simp [cutAll] at h;rw [h];exact Nat.le_refl _
 | y :: s,x,h => by
  rw [cutAll_cons] at h
  split at h
  ·rcases List.mem_cons.1 h with e | e
   ·rw [e];simp
   ·have:=cutAll_sizes c s x e;simp only [List.length_cons];omega
  ·cases hc : cutAll c s with
   | nil => exact absurd hc (cutAll_ne c s)
   | cons a b =>
    rw [hc] at h
    simp only [glue,List.mem_cons] at h
    rcases h with e | e
    ·have:=cutAll_sizes c s a (by rw [hc];simp)
     rw [e,List.length_append,List.length_cons];simp;omega
    ·have:=cutAll_sizes c s x (by rw [hc];simp [e])
     simp only [List.length_cons];omega
theorem spec_num' (l : List UInt8) (hl : l.length ≤ 1048576) (k : Nat) (hk : 30 ≤ k) : spec_l01Number.f k (toB l) = some (numL l):=spec_num (toB l) (by rw [toB_size];omega) k hk
theorem impl_num' (l : List UInt8) (hl : l.length ≤ 1048576) (k : Nat) (hk : 30 ≤ k) : impl_ReadDecimal.f k (toB l) = some (numL l):=impl_num (toB l) (by rw [toB_size];omega) k hk

theorem cutAll_length (c : UInt8) : ∀ l : List UInt8,(cutAll c l).length ≤ l.length + 1
 | [] => Nat.le_refl _
 | x :: l => by
  have:=cutAll_length c l
  rw [cutAll_cons]
  split
  ·simp only [List.length_cons];omega
  ·cases h : cutAll c l with
   | nil => exact absurd h (cutAll_ne c l)
   | cons y r => rw [h] at this;simp only [glue,List.length_cons] at this ⊢;omega
theorem extract_data (s : ByteArray) (a b : Nat) : (s.extract a b).data.toList = (s.data.toList.drop a).take (b - a):=by
 rw [ByteArray.data_extract,Array.toList_extract]
theorem extract_toB (s : ByteArray) (a b : Nat) : s.extract a b = toB ((s.data.toList.drop a).take (b - a)):=by
 rw [← extract_data]
 rfl
theorem spec_split_loop (c : UInt8) (s : ByteArray) (hs : s.size ≤ 1048576) : ∀ (d i b k : Nat) (acc : List ByteArray),i + d = s.data.toList.length → d < k → b ≤ i → acc.length ≤ i →
  spec_l01Split.l0 k s ((c.toNat : Nat) : Int) acc b i = some (acc ++ (glue ((s.data.toList.drop b).take (i - b)) (cutAll c (s.data.toList.drop i))).map toB)
 | d,i,b,0,acc,_,h,_,_ => absurd h (Nat.not_lt_zero _)
 | 0,i,b,k + 1,acc,h,_,hb,ha => by
  have hz:=size_list s
  rw [spec_l01Split.l0,if_neg (by omega),if_pos (by omega),if_pos (by omega),if_pos (by omega),Int.toNat_natCast,extract_toB,List.drop_eq_nil_of_le (show s.data.toList.length ≤ i by omega)]
  rw [show i = s.data.toList.length by omega,hz]
  simp [cutAll,glue]
 | d + 1,i,b,k + 1,acc,h,hk,hb,ha => by
  have hz:=size_list s
  have hi : i < s.data.toList.length:=by omega
  have e2 : wrap64 ((i : Int) + 1) = ((i + 1 : Nat) : Int):=by rw [w64 (by omega) (by omega)];omega
  rw [spec_l01Split.l0,if_pos (by omega),if_pos (by omega),bt_nat s i hi,e2,List.drop_eq_getElem_cons hi,cutAll_cons]
  by_cases hc : s.data.toList[i] = c
  ·rw [if_pos (by rw [hc]),if_pos (by omega),if_pos (by omega),if_pos (by omega),if_pos (by omega),spec_split_loop c s hs d (i + 1) (i + 1) k _ (by omega) (by omega) (Nat.le_refl _) (by rw [List.length_append,List.length_singleton];omega),if_pos hc,Nat.sub_self,List.take_zero,glue_nil _ (cutAll_ne _ _),Int.toNat_natCast,Int.toNat_natCast,extract_toB]
   simp [glue]
  ·have hc' : ¬ ((s.data.toList[i].toNat : Nat) : Int) = ((c.toNat : Nat) : Int):=by
    intro e
    exact hc (UInt8.toNat_inj.1 (by omega))
   rw [if_neg hc',spec_split_loop c s hs d (i + 1) b k acc (by omega) (by omega) (by omega) (by omega),if_neg hc,glue_glue _ _ _ (cutAll_ne _ _)]
   congr 4
   rw [show i + 1 - b = (i - b) + 1 by omega,List.take_add_one,List.getElem?_drop,show b + (i - b) = i by omega,List.getElem?_eq_getElem hi]
   rfl
theorem spec_split (c : UInt8) (s : ByteArray) (hs : s.size ≤ 1048576) (k : Nat) (hk : s.size + 1 ≤ k) : spec_l01Split.f k s ((c.toNat : Nat) : Int) = some ((cutAll c s.data.toList).map toB):=by
 unfold spec_l01Split.f
 have hz:=size_list s
 have:=spec_split_loop c s hs s.data.toList.length 0 0 k [] (by omega) (by omega) (Nat.le_refl _) (Nat.le_refl _)
 simp only [Int.natCast_zero] at this
 rw [this,List.drop_zero,Nat.sub_self,List.take_zero,glue_nil _ (cutAll_ne _ _)]
 rfl

theorem impl_split (c : UInt8) (s : ByteArray) (hs : s.size ≤ 1048576) : strings_Split.f s (⟨#[c]⟩ : ByteArray) = some ((cutAll c s.data.toList).map toB):=by
 unfold strings_Split.f
 rw [if_pos (show 1 ≤ (⟨#[c]⟩ : ByteArray).size from Nat.le_refl 1),if_pos (by omega)]
 congr 1
 rw [← split_cutAll c s.data.toList,← map_toB (Lib.splitB _ _ _ _),Lib.splitB_data]
 rfl

def inL (n : Int) : Bool:=decide (n ≥ -1000000000000) && decide (n ≤ 1000000000000)
theorem spec_in (n : Int) : spec_l00In.f n (-1000000000000) 1000000000000 = some (inL n):=by
 unfold spec_l00In.f inL
 by_cases h : n ≥ -1000000000000
 ·rw [if_pos h,decide_eq_true h];rfl
 ·rw [if_neg h,decide_eq_false h];rfl
theorem impl_in (n : Int) : impl_within.f n (-1000000000000) 1000000000000 = some (inL n):=by
 unfold impl_within.f inL
 by_cases h : n ≥ -1000000000000
 ·rw [if_pos h,decide_eq_true h];rfl
 ·rw [if_neg h,decide_eq_false h];rfl

theorem map_rd (p : List (List UInt8)) (i : Nat) (h : i < p.length) : rdOf ByteArray.empty (p.map toB) (i : Int) = toB p[i]:=by
 unfold rdOf
 rw [Int.toNat_natCast,List.getD_eq_getElem?_getD,List.getElem?_map,List.getElem?_eq_getElem h]
 rfl

def goodN (l : List UInt8) : Bool:=(numL l).2 && inL (numL l).1
theorem spec_rl_loop (p : List (List UInt8)) (hp : p.length ≤ 64) (hs : ∀ x ∈ p,x.length ≤ 1048576) : ∀ (d i k : Nat) (acc : List Int),i + d = p.length → d + 40 < k → acc.length ≤ i →
  spec_ReadList.l0 k (p.map toB) acc i = some (if (p.drop i).all goodN = true then (acc ++ (p.drop i).map (fun x => (numL x).1),true) else ([],false))
 | d,i,0,acc,_,h,_ => absurd h (Nat.not_lt_zero _)
 | 0,i,k + 1,acc,h,_,ha => by
  rw [spec_ReadList.l0,if_neg (by rw [List.length_map];omega),List.drop_eq_nil_of_le (by omega)]
  simp
 | d + 1,i,k + 1,acc,h,hk,ha => by
  have hi : i < p.length:=by omega
  have hsi:=hs p[i] (List.getElem_mem hi)
  rw [spec_ReadList.l0,if_pos (by rw [List.length_map];omega),if_pos (by omega),map_rd p i hi,spec_num' _ hsi k (by omega),Option.bind_some,spec_in,Option.bind_some,w64 (by omega) (by omega),show (i : Int) + 1 = ((i + 1 : Nat) : Int) by omega,spec_rl_loop p hp hs d (i + 1) k _ (by omega) (by omega) (by rw [List.length_append,List.length_singleton];omega),if_pos (show acc.length < 17592186044416 by omega),List.drop_eq_getElem_cons hi,List.all_cons,List.map_cons]
  unfold goodN
  cases (numL p[i]).2
  ·simp
  ·cases inL (numL p[i]).1
   ·simp
   ·simp
theorem impl_rl_loop (p : List (List UInt8)) (hp : p.length ≤ 1048577) (hs : ∀ x ∈ p,x.length ≤ 1048576) : ∀ (d i k : Nat) (acc : List Int),i + d = p.length → d + 40 < k → acc.length = i →
  impl_ReadList.l0 k acc (p.map toB) ((p.map toB).length : Int) i = some (if (p.drop i).all goodN = true then (if p.length > 64 then ([],false) else (acc ++ (p.drop i).map (fun x => (numL x).1),true)) else ([],false))
 | d,i,0,acc,_,h,_ => absurd h (Nat.not_lt_zero _)
 | 0,i,k + 1,acc,h,_,ha => by
  rw [impl_ReadList.l0,if_neg (by rw [List.length_map];omega),List.drop_eq_nil_of_le (by omega),if_pos List.all_nil]
  by_cases hc : p.length > 64
  ·rw [if_pos (by omega),if_pos hc]
  ·rw [if_neg (by omega),if_neg hc]
   simp
 | d + 1,i,k + 1,acc,h,hk,ha => by
  have hi : i < p.length:=by omega
  have hsi:=hs p[i] (List.getElem_mem hi)
  rw [impl_ReadList.l0,if_pos (by rw [List.length_map];omega),if_pos (by omega),if_pos (by rw [List.length_map];omega),map_rd p i hi,impl_num' _ hsi k (by omega),Option.bind_some,impl_in,Option.bind_some,w64 (by omega) (by omega),show (i : Int) + 1 = ((i + 1 : Nat) : Int) by omega,impl_rl_loop p hp hs d (i + 1) k _ (by omega) (by omega) (by rw [List.length_append,List.length_singleton];omega),if_pos (show acc.length < 17592186044416 by omega),List.drop_eq_getElem_cons hi,List.all_cons,List.map_cons]
  unfold goodN
  cases (numL p[i]).2
  ·simp
  ·cases inL (numL p[i]).1
   ·simp
   ·simp
/-- The list of a text. -/
def listOf (s : List UInt8) : List Int × Bool:=if s = [45] then ([],true) else (if (cutAll 44 s).length > 64 then ([],false) else (if (cutAll 44 s).all goodN = true then ((cutAll 44 s).map (fun x => (numL x).1),true) else ([],false)))
theorem spec_readlist (s : List UInt8) (hs : s.length ≤ 1048576) (k : Nat) (hk : s.length + 200 ≤ k) : spec_ReadList.f k (toB s) = some (listOf s):=by
 unfold spec_ReadList.f listOf
 rw [toList_toB]
 by_cases h1 : s = [45]
 ·rw [if_pos h1,if_pos h1]
 ·have e : (((44 : UInt8).toNat : Nat) : Int) = 44:=rfl
  have h:=spec_split 44 (toB s) (by rw [toB_size];omega) k (by rw [toB_size];omega)
  rw [e] at h
  rw [if_neg h1,if_neg h1,h,Option.bind_some,data_toB]
  by_cases h2 : (cutAll 44 s).length > 64
  ·rw [if_pos (by rw [List.length_map];omega),if_pos h2]
  ·rw [if_neg (by rw [List.length_map];omega),if_neg h2]
   have:=spec_rl_loop (cutAll 44 s) (by omega) (fun x hx => Nat.le_trans (cutAll_sizes 44 s x hx) hs) _ 0 k [] (Nat.zero_add _) (by omega) (Nat.le_refl _)
   rw [List.drop_zero] at this
   exact this
theorem impl_readlist (s : List UInt8) (hs : s.length ≤ 1048576) (k : Nat) (hk : s.length + 200 ≤ k) : impl_ReadList.f k (toB s) = some (listOf s):=by
 unfold impl_ReadList.f listOf
 rw [toList_toB]
 by_cases h1 : s = [45]
 ·rw [if_pos h1,if_pos h1]
 ·rw [if_neg h1,if_neg h1,impl_split 44 (toB s) (by rw [toB_size];omega),Option.bind_some,data_toB]
  have hl:=cutAll_length 44 s
  have:=impl_rl_loop (cutAll 44 s) (by omega) (fun x hx => Nat.le_trans (cutAll_sizes 44 s x hx) hs) _ 0 k [] (Nat.zero_add _) (by omega) rfl
  rw [List.drop_zero] at this
  refine this.trans ?_
  by_cases h2 : (cutAll 44 s).length > 64
  ·rw [if_pos h2,if_pos h2]
   split <;> rfl
  ·rw [if_neg h2,if_neg h2]
   rfl
theorem listOf_length (s : List UInt8) : (listOf s).1.length ≤ 64:=by
 unfold listOf
 split
 ·simp
 ·split
  ·simp
  ·split
   ·simp only [List.length_map];omega
   ·simp

/-- What Cut gives, said by the pieces. -/
theorem cut_pieces (c : UInt8) (s : List UInt8) : (Lib.cut s [c] = (s,[],false) ∧ cutAll c s = [s]) ∨ (∃ l r,Lib.cut s [c] = (l,r,true) ∧ cutAll c s = l :: cutAll c r ∧ (∀ x ∈ l,x ≠ c)):=by
 obtain ⟨h1,h2⟩:=cutAll_index c s
 have hge:=Lib.indexByte_ge s c
 have e:=Lib.index_one s c
 by_cases h : Lib.indexByte s c = -1
 ·left
  unfold Lib.cut
  rw [e,if_neg (by omega)]
  exact ⟨rfl,h1 h⟩
 ·right
  obtain ⟨i,hi⟩ : ∃ i : Nat,Lib.indexByte s c = i:=⟨(Lib.indexByte s c).toNat,by omega⟩
  refine ⟨s.take i,s.drop (i + 1),?_,h2 i hi,fun x hx => ?_⟩
  ·unfold Lib.cut
   rw [e,hi,if_pos (by omega),Int.toNat_natCast]
   rfl
  ·obtain ⟨j,hj,e⟩:=List.mem_iff_getElem.1 hx
   rw [List.length_take] at hj
   rw [List.getElem_take] at e
   have:=(Lib.indexByte_some hi).2 j (by omega)
   rw [List.getElem?_eq_getElem (by omega),e] at this
   intro hx
   exact this (by rw [hx])
theorem impl_cut (c : UInt8) (s : ByteArray) (hs : s.size ≤ 1048576) : strings_Cut.f s (⟨#[c]⟩ : ByteArray) = some (toB (Lib.cut s.data.toList [c]).1,toB (Lib.cut s.data.toList [c]).2.1,(Lib.cut s.data.toList [c]).2.2):=by
 unfold strings_Cut.f
 rw [if_pos (by omega)]
 rfl
/-- A text with the byte in it has two pieces. -/
theorem two_pieces (y : UInt8) : ∀ r : List UInt8,y ∈ r → 2 ≤ (cutAll y r).length:=by
 intro r
 induction r with
 | nil => intro h;cases h
 | cons x l ih =>
  intro h
  rw [cutAll_cons]
  have hne:=cutAll_ne y l
  by_cases hx : x = y
  ·rw [if_pos hx]
   have : 0 < (cutAll y l).length:=List.length_pos_iff.2 hne
   simp only [List.length_cons];omega
  ·rw [if_neg hx]
   have:=ih ((List.mem_cons.1 h).resolve_left (fun e => hx e.symm))
   cases hc : cutAll y l with
   | nil => exact absurd hc hne
   | cons a b => rw [hc] at this;simpa [glue] using this
theorem cutAll_one {c : UInt8} {r : List UInt8} {x : List UInt8} (h : cutAll c r = [x]) : x = r ∧ ∀ y ∈ r,y ≠ c:=by
 rcases cut_pieces c r with ⟨_,h2⟩ | ⟨l,r',h1,h2,h3⟩
 ·rw [h2] at h
  simp only [List.cons.injEq,and_true] at h
  subst h
  refine ⟨rfl,fun y hy e => ?_⟩
  subst e
  have:=two_pieces y r hy
  rw [h2] at this
  simp at this
 ·rw [h2] at h
  simp only [List.cons.injEq] at h
  exact absurd h.2 (cutAll_ne _ _)

/-- The point of a text. -/
def ptOf (s : List UInt8) : Int × Int × Bool :=
 match cutAll 44 s with
 | [a,b] => if (numL a).2 = true ∧ (numL b).2 = true ∧ okP (numL a).1 (numL b).1 = true then ((numL a).1,(numL b).1,true) else (0,0,false)
 | _ => (0,0,false)
theorem rd0 (a : ByteArray) (l : List ByteArray) : rdOf ByteArray.empty (a :: l) 0 = a:=rfl
theorem rd1 (a b : ByteArray) (l : List ByteArray) : rdOf ByteArray.empty (a :: b :: l) 1 = b:=rfl
theorem spec_read (s : List UInt8) (hs : s.length ≤ 1048576) (k : Nat) (hk : s.length + 40 ≤ k) : spec_l02Read.f k (toB s) = some (ptOf s):=by
 unfold spec_l02Read.f ptOf
 have e : (((44 : UInt8).toNat : Nat) : Int) = 44:=rfl
 have h:=spec_split 44 (toB s) (by rw [toB_size];omega) k (by rw [toB_size];omega)
 rw [e] at h
 rw [h,Option.bind_some,data_toB]
 have hz:=cutAll_sizes 44 s
 match hc : cutAll 44 s with
 | [] => rfl
 | [a] => rfl
 | [a,b] =>
  have ha:=hz a (by rw [hc];simp)
  have hb:=hz b (by rw [hc];simp)
  simp only [List.map_cons,List.map_nil,List.length_cons,List.length_nil,rd0,rd1]
  rw [spec_num' a (by omega) k (by omega),spec_num' b (by omega) k (by omega)]
  simp only [Option.bind_some,spec_l02Ok_eq]
  rw [if_pos (by decide),if_pos (by decide),if_pos (by decide)]
  by_cases h1 : (numL a).2 = true
  ·by_cases h2 : (numL b).2 = true
   ·by_cases h3 : okP (numL a).1 (numL b).1 = true
    ·rw [if_pos h1,if_pos h2,if_pos h3,if_pos ⟨h1,h2,h3⟩]
    ·rw [if_pos h1,if_pos h2,if_neg h3,if_neg (fun h => h3 h.2.2)]
   ·rw [if_pos h1,if_neg h2,if_neg (fun h => h2 h.2.1)]
  ·rw [if_neg h1,if_neg (fun h => h1 h.1)]
 | a :: b :: c :: l =>
  simp only [List.map_cons,List.length_cons]
  rw [if_neg (by omega)]
theorem impl_read (s : List UInt8) (hs : s.length ≤ 1048576) (k : Nat) (hk : s.length + 40 ≤ k) : impl_ReadPoint.f k (toB s) = some (ptOf s):=by
 unfold impl_ReadPoint.f ptOf
 rw [impl_cut 44 (toB s) (by rw [toB_size];omega),Option.bind_some,data_toB]
 have hz:=cutAll_sizes 44 s
 rcases cut_pieces 44 s with ⟨h1,h2⟩ | ⟨l,r,h1,h2,h3⟩
 ·rw [h1,h2]
  simp only
  rw [impl_num' s (by omega) k (by omega),impl_num' [] (by simp) k (by omega),Option.bind_some,Option.bind_some,if_neg (by decide)]
 ·rw [h1,h2]
  have hl:=hz l (by rw [h2];simp)
  have hr : r.length ≤ s.length:=by
   unfold Lib.cut at h1
   split at h1
   ·simp only [Prod.mk.injEq] at h1
    rw [← h1.2.1,List.length_drop];omega
   ·simp at h1
  simp only
  rw [impl_num' l (by omega) k (by omega),impl_num' r (by omega) k (by omega),Option.bind_some,Option.bind_some,if_pos trivial]
  match hc : cutAll 44 r with
  | [] => exact absurd hc (cutAll_ne _ _)
  | [x] =>
   obtain ⟨rfl,_⟩:=cutAll_one hc
   simp only [Option.bind_some,impl_ValidPoint_eq]
   by_cases h1 : (numL l).2 = true
   ·by_cases h2 : (numL x).2 = true
    ·by_cases h3 : okP (numL l).1 (numL x).1 = true
     ·rw [if_pos h1,if_pos h2,if_pos h3,if_pos ⟨h1,h2,h3⟩]
     ·rw [if_pos h1,if_pos h2,if_neg h3,if_neg (fun h => h3 h.2.2)]
    ·rw [if_pos h1,if_neg h2,if_neg (fun h => h2 h.2.1)]
   ·rw [if_neg h1,if_neg (fun h => h1 h.1)]
  | x :: y :: t =>
   -- the rest has a comma in it
   have hm : (44 : UInt8) ∈ r:=by
    rcases cut_pieces 44 r with ⟨_,q⟩ | ⟨l',r',q1,q2,q3⟩
    ·rw [q] at hc;simp at hc
    ·unfold Lib.cut at q1
     have e:=Lib.index_one r 44
     have hge:=Lib.indexByte_ge r 44
     split at q1
     ·rename_i hi
      rw [e] at hi
      obtain ⟨i,hi'⟩ : ∃ i : Nat,Lib.indexByte r 44 = i:=⟨(Lib.indexByte r 44).toNat,by omega⟩
      exact List.mem_of_getElem? (Lib.indexByte_some hi').1
     ·simp at q1
   have hbad:=numL_comma hm (by decide) (by decide)
   rw [hbad]
   simp

def ptB (x y : Int) : ByteArray:=toB (Lib.itoa x ++ [44] ++ Lib.itoa y)
theorem ptB_size (x y : Int) (h : okP x y = true) : (ptB x y).size ≤ 43:=by
 obtain ⟨⟨a,b⟩,c,d⟩:=(okP_iff x y).1 h
 have h1:=Lib.itoa_length_le x (by omega) (by omega)
 have h2:=Lib.itoa_length_le y (by omega) (by omega)
 unfold ptB
 rw [toB_size,List.length_append,List.length_append,List.length_singleton]
 omega
theorem impl_text (x y : Int) : impl_PointText.f x y = some (if okP x y = true then ptB x y else toB []):=by
 unfold impl_PointText.f
 rw [impl_ValidPoint_eq,Option.bind_some]
 by_cases h : okP x y = true
 ·obtain ⟨⟨a,b⟩,c,d⟩:=(okP_iff x y).1 h
  have h1:=Lib.itoa_length_le x (by omega) (by omega)
  have h2:=Lib.itoa_length_le y (by omega) (by omega)
  have e44 : (⟨#[44]⟩ : ByteArray) = toB [44]:=rfl
  unfold ptB
  rw [if_pos h,if_pos h,impl_dec x (by omega) (by omega),impl_dec y (by omega) (by omega),Option.bind_some,Option.bind_some,e44,toB_append,toB_append,toB_size,toB_size,toB_size,if_pos (by omega),if_pos (by rw [List.length_append,List.length_singleton];omega)]
 ·rw [if_neg h,if_neg h]
  rfl

def ptL (x y : Int) : List UInt8:=Lib.itoa x ++ [44] ++ Lib.itoa y
theorem ptB_eq (x y : Int) : ptB x y = toB (ptL x y):=rfl
theorem ptL_length (x y : Int) (h : okP x y = true) : (ptL x y).length ≤ 43:=by
 have:=ptB_size x y h
 rwa [ptB_eq,toB_size] at this

theorem join_take_succ (sep : List UInt8) (xs : List (List UInt8)) (i : Nat) (hi : i < xs.length) : Lib.join (xs.take (i + 1)) sep = if i = 0 then xs[i] else Lib.join (xs.take i) sep ++ sep ++ xs[i]:=by
 cases xs with
 | nil => simp at hi
 | cons x r =>
  cases i with
  | zero => simp [Lib.join_one]
  | succ i =>
   have hr : i < r.length:=by simpa using hi
   rw [if_neg (by omega),List.take_succ_cons,List.take_succ_cons,Lib.join_cons,Lib.join_cons,List.getElem_cons_succ,Lib.joinTail_take_succ sep r i r[i] (List.getElem?_eq_getElem hr)]
   simp [List.append_assoc]
theorem join_take_length (sep : List UInt8) (hs : sep.length = 1) (M : Nat) (xs : List (List UInt8)) (hx : ∀ x ∈ xs,x.length ≤ M) : ∀ i,i ≤ xs.length → (Lib.join (xs.take i) sep).length ≤ (M + 1) * i
 | 0,_ => by simp [Lib.join_nil]
 | i + 1,hi => by
  have h1:=join_take_length sep hs M xs hx i (by omega)
  have h2:=hx xs[i] (List.getElem_mem (by omega))
  rw [join_take_succ sep xs i (by omega),Nat.mul_add]
  split
  ·omega
  ·rw [List.length_append,List.length_append]
   omega
theorem strings_join (c : UInt8) (M : Nat) (xs : List (List UInt8)) (hx : ∀ x ∈ xs,x.length ≤ M) (hM : (M + 1) * xs.length ≤ 1000000000) (hl : xs.length ≤ 1000000000) : strings_Join.f (xs.map toB) (⟨#[c]⟩ : ByteArray) = some (toB (Lib.join xs [c])):=by
 have e : (xs.map toB).map (·.data.toList) = xs:=by
  rw [List.map_map]
  exact List.map_id' _
 have e2 : (⟨#[c]⟩ : ByteArray).data.toList = [c]:=rfl
 have h:=join_take_length [c] rfl M xs hx xs.length (Nat.le_refl _)
 rw [List.take_length] at h
 unfold strings_Join.f
 rw [e,e2,if_pos (by rw [List.length_map];omega),if_pos (by omega)]
 rfl

theorem getP (p : List S36) (i : Nat) (h : i < p.length) : p.getD i z36 = p[i]:=by
 rw [List.getD_eq_getElem?_getD,List.getElem?_eq_getElem h]
 rfl
def ptsL (p : List S36) : List (List UInt8):=p.map fun s => ptL s.f0 s.f1
theorem ptsL_length (p : List S36) : (ptsL p).length = p.length:=List.length_map _
theorem ptsL_get (p : List S36) (i : Nat) (h : i < p.length) : (ptsL p)[i]'(by rw [ptsL_length];exact h) = ptL p[i].f0 p[i].f1:=by
 unfold ptsL
 rw [List.getElem_map]
theorem ptsL_small (p : List S36) (hok : ∀ s ∈ p,okP s.f0 s.f1 = true) : ∀ x ∈ ptsL p,x.length ≤ 43:=by
 intro x hx
 obtain ⟨s,hs,rfl⟩:=List.mem_map.1 hx
 exact ptL_length _ _ (hok s hs)

/-- The pieces joined are the text. -/
theorem joinTail_cut (c : UInt8) : ∀ s : List UInt8,Lib.join (cutAll c s) [c] = s
 | [] => rfl
 | x :: l => by
  have ih:=joinTail_cut c l
  have hne:=cutAll_ne c l
  rw [cutAll_cons]
  by_cases h : x = c
  ·rw [if_pos h]
   subst h
   cases hc : cutAll x l with
   | nil => exact absurd hc hne
   | cons a b =>
    rw [hc] at ih
    rw [Lib.join_cons] at ih ⊢
    rw [Lib.joinTail,List.map_cons,List.flatten_cons,← Lib.joinTail]
    simp only [List.nil_append,List.singleton_append,List.cons_append]
    rw [ih]
  ·rw [if_neg h]
   cases hc : cutAll c l with
   | nil => exact absurd hc hne
   | cons a b =>
    rw [hc] at ih
    show Lib.join (([x] ++ a) :: b) [c] = x :: l
    rw [Lib.join_cons] at ih ⊢
    rw [List.append_assoc,ih]
    rfl
theorem numL_text {x : List UInt8} (h : (numL x).2 = true) : Lib.itoa (numL x).1 = x:=by
 rw [numL_def] at h ⊢
 by_cases h1 : x.head? = some 45
 ·rw [if_pos h1] at h ⊢
  by_cases h2 : x.length ≤ 1 ∨ 19 < x.length ∨ x[1]? = some 48
  ·rw [if_pos h2] at h;cases h
  ·rw [if_neg h2] at h ⊢
   by_cases h3 : digs (x.drop 1) = true
   ·rw [if_pos h3]
    cases x with
    | nil => cases h1
    | cons a l =>
     simp only [List.head?_cons,Option.some.injEq] at h1
     subst h1
     simp only [List.drop_succ_cons,List.drop_zero] at h3 ⊢
     have hne : l ≠ []:=by
      rintro rfl
      exact h2 (.inl (by simp))
     refine (itoa_minus l hne ((digs_iff l).1 h3)).2 ?_
     intro h4
     refine h2 (.inr (.inr ?_))
     cases l with
     | nil => exact absurd rfl hne
     | cons b l => simpa using h4
   ·rw [if_neg h3] at h;cases h
 ·rw [if_neg h1] at h ⊢
  by_cases h2 : x.length = 0 ∨ 18 < x.length ∨ (x.head? = some 48 ∧ 1 < x.length)
  ·rw [if_pos h2] at h;cases h
  ·rw [if_neg h2] at h ⊢
   by_cases h3 : digs x = true
   ·rw [if_pos h3]
    have hne : x ≠ []:=by
     rintro rfl
     exact h2 (.inl rfl)
    refine (itoa_pos x hne ((digs_iff x).1 h3)).2 ?_
    by_cases h4 : x.head? = some 48
    ·right
     have : x.length ≠ 0:=fun h => h2 (.inl h)
     have : ¬ 1 < x.length:=fun h => h2 (.inr (.inr ⟨h4,h⟩))
     omega
    ·exact .inl h4
   ·rw [if_neg h3] at h;cases h
theorem join_two (a b : List UInt8) (c : UInt8) : Lib.join [a,b] [c] = a ++ [c] ++ b:=by
 simp [Lib.join]
theorem join_one' (a : List UInt8) (c : List UInt8) : Lib.join [a] c = a:=by
 simp [Lib.join]
theorem ptOf_text {x : List UInt8} (h : (ptOf x).2.2 = true) : ptL (ptOf x).1 (ptOf x).2.1 = x ∧ okP (ptOf x).1 (ptOf x).2.1 = true:=by
 have hj:=joinTail_cut 44 x
 unfold ptOf at h ⊢
 match hc : cutAll 44 x with
 | [] => rw [hc] at h;cases h
 | [a] => rw [hc] at h;cases h
 | [a,b] =>
  rw [hc] at h hj
  simp only at h ⊢
  by_cases q : (numL a).2 = true ∧ (numL b).2 = true ∧ okP (numL a).1 (numL b).1 = true
  ·rw [if_pos q]
   refine ⟨?_,q.2.2⟩
   unfold ptL
   simp only
   rw [numL_text q.1,numL_text q.2.1,← join_two]
   exact hj
  ·rw [if_neg q] at h;cases h
 | a :: b :: c :: l => rw [hc] at h;cases h
theorem mem_cutAll {c y : UInt8} (hy : y ≠ c) : ∀ {s : List UInt8},y ∈ s → ∃ x ∈ cutAll c s,y ∈ x
 | [],h => by cases h
 | x :: l,h => by
  rw [cutAll_cons]
  have hne:=cutAll_ne c l
  by_cases e : x = c
  ·rw [if_pos e]
   have hl : y ∈ l:=(List.mem_cons.1 h).resolve_left (fun q => hy (q.trans e))
   obtain ⟨z,h1,h2⟩:=mem_cutAll hy hl
   exact ⟨z,List.mem_cons_of_mem _ h1,h2⟩
  ·rw [if_neg e]
   cases hc : cutAll c l with
   | nil => exact absurd hc hne
   | cons a b =>
    show ∃ z ∈ ([x] ++ a) :: b,y ∈ z
    rcases List.mem_cons.1 h with q | q
    ·exact ⟨[x] ++ a,by simp,by rw [q];simp⟩
    ·obtain ⟨z,h1,h2⟩:=mem_cutAll hy q
     rw [hc] at h1
     rcases List.mem_cons.1 h1 with q1 | q1
     ·exact ⟨[x] ++ a,by simp,by rw [← q1];simp [h2]⟩
     ·exact ⟨z,List.mem_cons_of_mem _ q1,h2⟩
theorem cutAll_none {c : UInt8} : ∀ {s : List UInt8},c ∉ s → cutAll c s = [s]
 | [],_ => rfl
 | x :: l,h => by
  rw [cutAll_cons,if_neg (fun e => h (by rw [e];simp)),cutAll_none (fun q => h (List.mem_cons_of_mem _ q))]
  rfl
theorem listOf_space {r : List UInt8} (h : (32 : UInt8) ∈ r) : (listOf r).2 = false:=by
 unfold listOf
 by_cases h1 : r = [45]
 ·rw [h1] at h
  simp at h
 ·rw [if_neg h1]
  by_cases h2 : (cutAll 44 r).length > 64
  ·rw [if_pos h2]
  ·rw [if_neg h2,if_neg ?_]
   intro h3
   obtain ⟨x,hx,hm⟩:=mem_cutAll (c:=44) (by decide) h
   have:=List.all_eq_true.1 h3 x hx
   unfold goodN at this
   rw [numL_comma hm (by decide) (by decide)] at this
   simp at this
theorem listOf_nil : (listOf []).2 = false:=by
 unfold listOf
 rw [if_neg (by simp)]
 have e : cutAll 44 ([] : List UInt8) = [[]]:=rfl
 rw [e,if_neg (by simp),if_neg ?_]
 simp only [List.all_cons,List.all_nil,Bool.and_true]
 unfold goodN
 rw [numL_def,if_neg (by simp),if_pos (.inl rfl)]
 simp
/-- What a face's text says. -/
def fcOf (t : List UInt8) : List UInt8 × List Int × Bool :=
 match cutAll 32 t with
 | [a,b] => (a,(listOf b).1,(listOf b).2)
 | _ => ([],[],false)
theorem fcOf_cut (t : List UInt8) : (listOf (Lib.cut t [32]).2.1).2 = (fcOf t).2.2 ∧ ((fcOf t).2.2 = true → (Lib.cut t [32]).1 = (fcOf t).1 ∧ (listOf (Lib.cut t [32]).2.1).1 = (fcOf t).2.1):=by
 rcases cut_pieces 32 t with ⟨h1,h2⟩ | ⟨l,r,h1,h2,_⟩
 ·unfold fcOf
  rw [h1,h2]
  exact ⟨listOf_nil,fun h => by cases h⟩
 ·unfold fcOf
  rw [h1,h2]
  match hc : cutAll 32 r with
  | [] => exact absurd hc (cutAll_ne _ _)
  | [x] =>
   obtain ⟨rfl,_⟩:=cutAll_one hc
   exact ⟨rfl,fun _ => ⟨rfl,rfl⟩⟩
  | x :: y :: q =>
   refine ⟨?_,fun h => by cases h⟩
   by_cases hm : (32 : UInt8) ∈ r
   ·exact listOf_space hm
   ·rw [cutAll_none hm] at hc
    simp at hc
theorem fcOf_len (t : List UInt8) : (fcOf t).2.1.length ≤ 64 ∧ (fcOf t).1.length ≤ t.length:=by
 have hz:=cutAll_sizes 32 t
 unfold fcOf
 split
 ·rename_i a b e
  exact ⟨listOf_length b,hz a (by rw [e];simp)⟩
 ·exact ⟨by simp,by simp⟩

theorem rdI (x : List Int) (j : Nat) (h : j < x.length) : rd x (j : Int) = x[j]:=by
 unfold rd
 rw [Int.toNat_natCast,List.getD_eq_getElem?_getD,List.getElem?_eq_getElem h]
 rfl
theorem implList_loop (l : List Int) (hl : l.length ≤ 64) (hr : ∀ x ∈ l,-9223372036854775808 ≤ x ∧ x ≤ 9223372036854775807) : ∀ (d i k : Nat),i + d = l.length → d < k →
  impl_ListText.l1 k (((l.map Lib.itoa).map toB).take i) l (l.length : Int) i = some (toB (Lib.join (l.map Lib.itoa) [44]))
 | d,i,0,_,h => absurd h (Nat.not_lt_zero _)
 | 0,i,k + 1,h,_ => by
  have hm : ∀ x ∈ l.map Lib.itoa,x.length ≤ 21:=by
   intro x hx
   obtain ⟨y,hy,rfl⟩:=List.mem_map.1 hx
   exact Lib.itoa_length_le y (hr y hy).1 (hr y hy).2
  rw [impl_ListText.l1,if_neg (by omega),List.take_of_length_le (by rw [List.length_map,List.length_map];omega),strings_join 44 21 _ hm (by rw [List.length_map];omega) (by rw [List.length_map];omega)]
  rfl
 | d + 1,i,k + 1,h,hk => by
  have hi : i < l.length:=by omega
  have hxi:=hr l[i] (List.getElem_mem hi)
  have next:=implList_loop l hl hr d (i + 1) k (by omega) (by omega)
  rw [List.take_add_one,List.getElem?_map,List.getElem?_map,List.getElem?_eq_getElem hi] at next
  rw [impl_ListText.l1,if_pos (by omega),if_pos (by omega),if_pos (by omega),rdI l i hi,impl_dec _ hxi.1 hxi.2,Option.bind_some,if_pos (by rw [List.length_take];omega),w64 (by omega) (by omega),show (i : Int) + 1 = ((i + 1 : Nat) : Int) by omega]
  exact next
theorem implFits_loop (l : List Int) (hl : l.length ≤ 64) (hr : ∀ x ∈ l,-9223372036854775808 ≤ x ∧ x ≤ 9223372036854775807) : ∀ (d i k : Nat),i + d = l.length → d + 100 < k →
  impl_ListText.l0 k l l (l.length : Int) i = some (if (l.drop i).all inL = true then (if l.length = 0 then toB [45] else toB (Lib.join (l.map Lib.itoa) [44])) else toB [])
 | d,i,0,_,h => absurd h (Nat.not_lt_zero _)
 | 0,i,k + 1,h,hk => by
  rw [impl_ListText.l0,if_neg (by omega),List.drop_eq_nil_of_le (by omega),if_pos List.all_nil]
  by_cases h0 : l.length = 0
  ·rw [if_pos (by omega),if_pos h0]
   rfl
  ·rw [if_neg (by omega),if_neg h0]
   have:=implList_loop l hl hr l.length 0 k (by omega) (by omega)
   rw [List.take_zero] at this
   exact this
 | d + 1,i,k + 1,h,hk => by
  have hi : i < l.length:=by omega
  rw [impl_ListText.l0,if_pos (by omega),if_pos (by omega),if_pos (by omega),rdI l i hi,impl_in,Option.bind_some,w64 (by omega) (by omega),show (i : Int) + 1 = ((i + 1 : Nat) : Int) by omega,implFits_loop l hl hr d (i + 1) k (by omega) (by omega),List.drop_eq_getElem_cons hi,List.all_cons]
  cases inL l[i]
  ·rw [if_neg (by decide),Bool.false_and,if_neg (by decide)]
   rfl
  ·rw [if_pos rfl,Bool.true_and]
/-- What a list is written as. -/
def listText (l : List Int) : ByteArray:=if (l.all inL && decide (l.length ≤ 64)) = true then (if l.length = 0 then toB [45] else toB (Lib.join (l.map Lib.itoa) [44])) else toB []
theorem impl_listText (l : List Int) (hl : l.length ≤ 1048576) (hr : ∀ x ∈ l,-9223372036854775808 ≤ x ∧ x ≤ 9223372036854775807) (k : Nat) (hk : l.length + 300 ≤ k) : impl_ListText.f k l = some (listText l):=by
 unfold impl_ListText.f listText
 by_cases h64 : l.length ≤ 64
 ·rw [if_neg (by omega),decide_eq_true h64,Bool.and_true]
  have:=implFits_loop l h64 hr l.length 0 k (by omega) (by omega)
  rw [List.drop_zero] at this
  exact this
 ·rw [if_pos (by omega),decide_eq_false h64,Bool.and_false,if_neg (by decide)]
  rfl

theorem ptsFrom_all (w h : Int) (pts : List S36) : ∀ (d i : Nat),ptsFrom w h pts d i = true → ∀ j,i ≤ j → j < i + d → ptGood w h pts j = true
 | 0,i,_,j,h1,h2 => absurd h2 (by omega)
 | d + 1,i,hh,j,h1,h2 => by
  rw [ptsFrom_succ,Bool.and_eq_true] at hh
  by_cases e : j = i
  ·rw [e]
   exact hh.1
  ·exact ptsFrom_all w h pts d (i + 1) hh.2 j (by omega) (by omega)
theorem draw_facts {w h : Int} {pts : List S36} {fs : List S45} (hd : drawB w h pts fs = true) : ((10 ≤ w ∧ w ≤ 20000) ∧ (10 ≤ h ∧ h ≤ 20000)) ∧ (pts.length ≤ 48 ∧ fs.length ≤ 24) ∧ ∀ s ∈ pts,okP s.f0 s.f1 = true:=by
 unfold drawB at hd
 simp only [Bool.and_eq_true,decide_eq_true_eq] at hd
 obtain ⟨⟨a,b⟩,c,_⟩:=hd
 refine ⟨a,b,fun s hs => ?_⟩
 obtain ⟨j,hj,rfl⟩:=List.getElem_of_mem hs
 have q:=ptsFrom_all w h pts pts.length 0 c j (by omega) (by omega)
 rw [ptGood_eq] at q
 simp only [Bool.and_eq_true,decide_eq_true_eq] at q
 obtain ⟨⟨x,y⟩,_⟩:=q
 rw [getP pts j hj] at x y
 exact (okP_iff _ _).2 ⟨⟨x.1,by omega⟩,y.1,by omega⟩
theorem e32 : (⟨#[32]⟩ : ByteArray) = toB [32]:=rfl
theorem e59 : (⟨#[59]⟩ : ByteArray) = toB [59]:=rfl
theorem e120 : (⟨#[120]⟩ : ByteArray) = toB [120]:=rfl
/-- What stands ahead of the points. -/
def hdL (w h : Int) : List UInt8:=((Lib.itoa w ++ [120]) ++ Lib.itoa h) ++ [59]
theorem dimpl_loop (w h : Int) (hw : 10 ≤ w ∧ w ≤ 20000) (hh0 : 10 ≤ h ∧ h ≤ 20000) (p : List S36) (fs : List S45) (hl : p.length ≤ 48) (hok : ∀ s ∈ p,okP s.f0 s.f1 = true) (K : Nat) (r : ByteArray) (hr : ∀ k,K ≤ k → impl_DrawingText.l1 k (toB (hdL w h ++ Lib.join (ptsL p) [32])) fs (fs.length : Int) 0 = some r) : ∀ (d i k : Nat),i + d = p.length → K + d < k →
  impl_DrawingText.l0 k (((ptsL p).map toB).take i) p (p.length : Int) i w h p fs = some r
 | d,i,0,_,hh => absurd hh (Nat.not_lt_zero _)
 | 0,i,k + 1,hh,hk => by
  have h1:=Lib.itoa_length_le w (by omega) (by omega)
  have h2:=Lib.itoa_length_le h (by omega) (by omega)
  have hj:=join_take_length [32] rfl 43 (ptsL p) (ptsL_small p hok) p.length (by rw [ptsL_length];omega)
  rw [List.take_of_length_le (by rw [ptsL_length];omega)] at hj
  rw [impl_DrawingText.l0,if_neg (by omega),List.take_of_length_le (by rw [List.length_map,ptsL_length];omega),strings_join 32 43 _ (ptsL_small p hok) (by rw [ptsL_length];omega) (by rw [ptsL_length];omega),impl_dec w (by omega) (by omega),impl_dec h (by omega) (by omega)]
  simp only [Option.bind_some,e120,e59,toB_append,toB_size]
  rw [if_pos (by omega),if_pos (by simp only [List.length_append,List.length_singleton];omega),if_pos (by simp only [List.length_append,List.length_singleton];omega),if_pos (by simp only [List.length_append,List.length_singleton];omega)]
  exact hr k (by omega)
 | d + 1,i,k + 1,hh,hk => by
  have hi : i < p.length:=by omega
  have hoi:=hok p[i] (List.getElem_mem hi)
  have next:=dimpl_loop w h hw hh0 p fs hl hok K r hr d (i + 1) k (by omega) (by omega)
  rw [List.take_add_one,List.getElem?_map,List.getElem?_eq_getElem (by rw [ptsL_length];exact hi),ptsL_get p i hi] at next
  rw [impl_DrawingText.l0,if_pos (by omega),if_pos (by omega),if_pos (by omega),rdN,getP p i hi,impl_text,if_pos hoi,Option.bind_some,ptB_eq,if_pos (by rw [List.length_take];omega),w64 (by omega) (by omega),show (i : Int) + 1 = ((i + 1 : Nat) : Int) by omega]
  exact next
/-- What a ring is written as. -/
def ringB (l : List Int) : ByteArray:=if l.length = 0 then toB [45] else toB (Lib.join (l.map Lib.itoa) [44])
theorem ringB_size (l : List Int) (hl : l.length ≤ 64) (hr : ∀ x ∈ l,-9223372036854775808 ≤ x ∧ x ≤ 9223372036854775807) : (ringB l).size ≤ 2000:=by
 have hm : ∀ x ∈ l.map Lib.itoa,x.length ≤ 21:=by
  intro x hx
  obtain ⟨y,hy,rfl⟩:=List.mem_map.1 hx
  exact Lib.itoa_length_le y (hr y hy).1 (hr y hy).2
 have hj:=join_take_length [44] rfl 21 (l.map Lib.itoa) hm l.length (by rw [List.length_map];omega)
 rw [List.take_of_length_le (by rw [List.length_map];omega)] at hj
 unfold ringB
 split
 ·rw [toB_size];simp
 ·rw [toB_size];omega
def faceT (f : S45) : ByteArray:=(((⟨#[59]⟩ : ByteArray) ++ f.f0) ++ (⟨#[32]⟩ : ByteArray)) ++ ringB f.f1
def facesB (fs : List S45) : Nat → Nat → ByteArray → ByteArray
 | 0,_,acc => acc
 | d + 1,i,acc => facesB fs d (i + 1) (acc ++ faceT (fs.getD i z45))
def GoodFs (fs : List S45) : Prop:=∀ i,i < fs.length → (fs.getD i z45).f0.size ≤ 1048576 ∧ (fs.getD i z45).f1.length ≤ 64 ∧ ∀ y ∈ (fs.getD i z45).f1,0 ≤ y ∧ y ≤ 1000000
theorem ring_impl (l : List Int) (hl : l.length ≤ 64) (hr : ∀ y ∈ l,0 ≤ y ∧ y ≤ 1000000) (k : Nat) (hk : 400 ≤ k) : impl_ListText.f k l = some (ringB l):=by
 have hr2 : ∀ x ∈ l,-9223372036854775808 ≤ x ∧ x ≤ 9223372036854775807:=fun x hx => by have:=hr x hx;omega
 rw [impl_listText l (by omega) hr2 k (by omega)]
 unfold listText ringB
 rw [if_pos ?_]
 rw [Bool.and_eq_true,decide_eq_true_eq]
 refine ⟨List.all_eq_true.2 fun x hx => ?_,hl⟩
 have:=hr x hx
 unfold inL
 rw [Bool.and_eq_true,decide_eq_true_eq,decide_eq_true_eq]
 omega
theorem s59 : (⟨#[59]⟩ : ByteArray).size = 1:=rfl
theorem s32 : (⟨#[32]⟩ : ByteArray).size = 1:=rfl
theorem faceT_size (f : S45) (h1 : f.f0.size ≤ 1048576) (h2 : f.f1.length ≤ 64) (h3 : ∀ y ∈ f.f1,0 ≤ y ∧ y ≤ 1000000) : (faceT f).size ≤ 1100000:=by
 have:=ringB_size f.f1 h2 (fun x hx => by have:=h3 x hx;omega)
 unfold faceT
 rw [ByteArray.size_append,ByteArray.size_append,ByteArray.size_append,s59,s32]
 omega
theorem dfaces_impl (fs : List S45) (hl : fs.length ≤ 24) (hg : GoodFs fs) : ∀ (d i k : Nat) (acc : ByteArray),i + d = fs.length → 500 + d < k → acc.size ≤ 1100000 * i + 10000 →
  impl_DrawingText.l1 k acc fs (fs.length : Int) i = some (facesB fs d i acc)
 | d,i,0,_,_,hh,_ => absurd hh (Nat.not_lt_zero _)
 | 0,i,k + 1,acc,hh,hk,_ => by
  rw [impl_DrawingText.l1,if_neg (by omega)]
  rfl
 | d + 1,i,k + 1,acc,hh,hk,ha => by
  have hi : i < fs.length:=by omega
  obtain ⟨g1,g2,g3⟩:=hg i hi
  have b2:=ring_impl _ g2 g3 k (by omega)
  have hz:=ringB_size _ g2 (fun x hx => by have:=g3 x hx;omega)
  have ht:=faceT_size _ g1 g2 g3
  have next:=dfaces_impl fs hl hg d (i + 1) k (acc ++ faceT (fs.getD i z45)) (by omega) (by omega) (by rw [ByteArray.size_append];omega)
  unfold faceT at ht
  rw [ByteArray.size_append,ByteArray.size_append,ByteArray.size_append,s59,s32] at ht
  rw [impl_DrawingText.l1]
  simp only [rdF_nat,b2,Option.bind_some,ByteArray.size_append,s59,s32]
  rw [w64 (by omega) (by omega),show (i : Int) + 1 = ((i + 1 : Nat) : Int) by omega]
  rw [if_pos (by omega),if_pos (by omega),if_pos (by omega),if_pos (by omega),if_pos (by omega),if_pos (by omega),if_pos (by omega)]
  exact next
/-- What the program writes for a drawing. -/
theorem impl_drawText (w h : Int) (pts : List S36) (fs : List S45) (hp : pts.length ≤ 1048576) (hf : fs.length ≤ 1048576) (hs : ShortP fs) (k : Nat) (hk : 3150000 ≤ k) : impl_DrawingText.f k w h pts fs = some (if drawB w h pts fs = true then facesB fs fs.length 0 (toB (hdL w h ++ Lib.join (ptsL pts) [32])) else toB []):=by
 by_cases hd : drawB w h pts fs = true
 ·obtain ⟨⟨hw,hh⟩,⟨hn,hm⟩,hok⟩:=draw_facts hd
  have hg : GoodFs fs:=by
   intro i hi
   have v:=drawB_valid hd hs i hi
   have r:=(drawB_face hd i hi).1
   refine ⟨(hs i hi).1,?_,fun y hy => ?_⟩
   ·have:=v.2.1
    rw [ringP_length] at this
    omega
   ·unfold ringOk at r
    have:=List.all_eq_true.1 r y hy
    rw [decide_eq_true_eq] at this
    omega
  have h1:=Lib.itoa_length_le w (by omega) (by omega)
  have h2:=Lib.itoa_length_le h (by omega) (by omega)
  have hj:=join_take_length [32] rfl 43 (ptsL pts) (ptsL_small pts hok) pts.length (by rw [ptsL_length];omega)
  rw [List.take_of_length_le (by rw [ptsL_length];omega)] at hj
  have hdl : (hdL w h).length ≤ 1000:=by
   unfold hdL
   simp only [List.length_append,List.length_singleton]
   omega
  have hfl:=fun k (hk : 600 ≤ k) => dfaces_impl fs hm hg fs.length 0 k (toB (hdL w h ++ Lib.join (ptsL pts) [32])) (by omega) (by omega) (by rw [toB_size,List.length_append];omega)
  unfold impl_DrawingText.f
  rw [impl_draw_eq w h pts fs hp hf hs k (by omega),Option.bind_some,if_pos hd,if_pos hd]
  have:=dimpl_loop w h hw hh pts fs hn hok 600 _ (fun k hk => hfl k hk) pts.length 0 k (by omega) (by omega)
  rw [List.take_zero] at this
  exact this
 ·unfold impl_DrawingText.f
  rw [impl_draw_eq w h pts fs hp hf hs k (by omega),Option.bind_some,if_neg hd,if_neg hd]
  rfl
theorem listOf_text {r : List UInt8} (h : (listOf r).2 = true) : ringB (listOf r).1 = toB r:=by
 have hj:=joinTail_cut 44 r
 unfold listOf at h ⊢
 by_cases h1 : r = [45]
 ·rw [if_pos h1,h1]
  rfl
 ·rw [if_neg h1] at h ⊢
  by_cases h2 : (cutAll 44 r).length > 64
  ·rw [if_pos h2] at h;cases h
  ·rw [if_neg h2] at h ⊢
   by_cases h3 : (cutAll 44 r).all goodN = true
   ·rw [if_pos h3]
    unfold ringB
    have hne:=cutAll_ne 44 r
    rw [if_neg (by rw [List.length_map];exact fun e => hne (List.length_eq_zero_iff.1 e))]
    have e : ((cutAll 44 r).map (fun x => (numL x).1)).map Lib.itoa = cutAll 44 r:=by
     rw [List.map_map]
     refine (List.map_congr_left (g:=id) fun x hx => ?_).trans (List.map_id _)
     have:=List.all_eq_true.1 h3 x hx
     unfold goodN at this
     rw [Bool.and_eq_true] at this
     exact numL_text this.1
    rw [e,hj]
   ·rw [if_neg h3] at h;cases h
/-- The face of a text. -/
def mkF (t : List UInt8) : S45:=⟨toB (fcOf t).1,(fcOf t).2.1⟩
theorem faceT_mkF {t : List UInt8} (h : (fcOf t).2.2 = true) : faceT (mkF t) = toB ([59] ++ t):=by
 have hj:=joinTail_cut 32 t
 unfold mkF fcOf at *
 match hc : cutAll 32 t with
 | [] => rw [hc] at h;cases h
 | [a] => rw [hc] at h;cases h
 | [a,b] =>
  rw [hc] at h hj
  simp only at h ⊢
  rw [join_two] at hj
  unfold faceT
  simp only
  rw [listOf_text h,e59,e32,toB_append,toB_append,toB_append,← hj]
  simp
 | a :: b :: c :: l => rw [hc] at h;cases h
theorem facesB_text (p : List (List UInt8)) (hok : ∀ x ∈ p,(fcOf x).2.2 = true) : ∀ (d i : Nat) (acc : List UInt8),i + d = p.length → facesB (p.map mkF) d i (toB acc) = toB (acc ++ Lib.joinTail [59] (p.drop i))
 | 0,i,acc,h => by
  rw [List.drop_eq_nil_of_le (by omega)]
  simp [facesB,Lib.joinTail]
 | d + 1,i,acc,h => by
  have hi : i < p.length:=by omega
  have e : (p.map mkF).getD i z45 = mkF p[i]:=by
   rw [List.getD_eq_getElem?_getD,List.getElem?_eq_getElem (by rw [List.length_map];exact hi),List.getElem_map]
   rfl
  have e2 : Lib.joinTail [59] (p[i] :: p.drop (i + 1)) = [59] ++ p[i] ++ Lib.joinTail [59] (p.drop (i + 1)):=by
   show (List.map ([59] ++ ·) (p[i] :: p.drop (i + 1))).flatten = _
   rw [List.map_cons,List.flatten_cons]
   rfl
  rw [facesB,e,faceT_mkF (hok _ (List.getElem_mem hi)),toB_append,facesB_text p hok d (i + 1) _ (by omega),List.drop_eq_getElem_cons hi,e2]
  simp only [List.append_assoc]

theorem digs_non {l : List UInt8} {c : UInt8} (h : c ∈ l) (hc : ¬ isDig c) : digs l = false:=by
 rw [Bool.eq_false_iff]
 intro h2
 exact hc ((digs_iff l).1 h2 c h)
theorem numL_non {l : List UInt8} {c : UInt8} (h : c ∈ l) (hc : ¬ isDig c) (hc2 : c ≠ 45) : numL l = (0,false):=by
 rw [numL_def]
 by_cases h1 : l.head? = some 45
 ·rw [if_pos h1]
  have hd : c ∈ l.drop 1:=by
   cases l with
   | nil => cases h
   | cons x l =>
    simp at h1
    rcases List.mem_cons.1 h with e | e
    ·rw [e] at hc2;exact absurd h1 hc2
    ·exact e
  rw [digs_non hd hc]
  simp
 ·rw [if_neg h1,digs_non h hc]
  simp
theorem numL_nil : (numL []).2 = false:=by
 rw [numL_def,if_neg (by simp),if_pos (.inl rfl)]
/-- The panel's size in a text. -/
def szOf (p : List UInt8) : Int × Int × Bool :=
 match cutAll 120 p with
 | [a,b] => ((numL a).1,(numL b).1,(numL a).2 && (numL b).2)
 | _ => (0,0,false)
theorem szOf_cut (p : List UInt8) : ((Lib.cut p [120]).2.2 && (numL (Lib.cut p [120]).1).2 && (numL (Lib.cut p [120]).2.1).2) = (szOf p).2.2 ∧ ((szOf p).2.2 = true → (numL (Lib.cut p [120]).1).1 = (szOf p).1 ∧ (numL (Lib.cut p [120]).2.1).1 = (szOf p).2.1):=by
 rcases cut_pieces 120 p with ⟨h1,h2⟩ | ⟨l,r,h1,h2,_⟩
 ·unfold szOf
  rw [h1,h2]
  exact ⟨by simp,fun h => by cases h⟩
 ·unfold szOf
  rw [h1,h2]
  match hc : cutAll 120 r with
  | [] => exact absurd hc (cutAll_ne _ _)
  | [x] =>
   obtain ⟨rfl,_⟩:=cutAll_one hc
   exact ⟨by simp,fun _ => ⟨rfl,rfl⟩⟩
  | x :: y :: q =>
   refine ⟨?_,fun h => by cases h⟩
   by_cases hm : (120 : UInt8) ∈ r
   ·have : (numL r).2 = false:=by rw [numL_non hm (by unfold isDig;decide) (by decide)]
    simp [this]
   ·rw [cutAll_none hm] at hc
    simp at hc
theorem szOf_text {p : List UInt8} (h : (szOf p).2.2 = true) : Lib.itoa (szOf p).1 ++ [120] ++ Lib.itoa (szOf p).2.1 = p:=by
 have hj:=joinTail_cut 120 p
 unfold szOf at h ⊢
 match hc : cutAll 120 p with
 | [] => rw [hc] at h;cases h
 | [a] => rw [hc] at h;cases h
 | [a,b] =>
  rw [hc] at h hj
  simp only [Bool.and_eq_true] at h ⊢
  rw [join_two] at hj
  rw [numL_text h.1,numL_text h.2]
  exact hj
 | a :: b :: c :: l => rw [hc] at h;cases h
def mkP (x : List UInt8) : S36:=⟨(ptOf x).1,(ptOf x).2.1⟩
/-- The points of a text. -/
def ptsOfT (p : List UInt8) : List (List UInt8):=if p = [] then [] else cutAll 32 p
theorem ptsOfT_text {p : List UInt8} (h : ∀ x ∈ ptsOfT p,(ptOf x).2.2 = true) : Lib.join (ptsL ((ptsOfT p).map mkP)) [32] = p:=by
 have e : ptsL ((ptsOfT p).map mkP) = ptsOfT p:=by
  unfold ptsL
  rw [List.map_map]
  exact (List.map_congr_left (g:=id) fun x hx => (ptOf_text (h x hx)).1).trans (List.map_id _)
 rw [e]
 unfold ptsOfT
 by_cases hp : p = []
 ·rw [if_pos hp,hp]
  rfl
 ·rw [if_neg hp]
  exact joinTail_cut 32 p
/-- What is read of a text is written as that text. -/
theorem text_back {s p0 p1 : List UInt8} {rest : List (List UInt8)} (hc : cutAll 59 s = p0 :: p1 :: rest) (h0 : (szOf p0).2.2 = true) (h1 : ∀ x ∈ ptsOfT p1,(ptOf x).2.2 = true) (h2 : ∀ x ∈ rest,(fcOf x).2.2 = true) :
  facesB (rest.map mkF) (rest.map mkF).length 0 (toB (hdL (szOf p0).1 (szOf p0).2.1 ++ Lib.join (ptsL ((ptsOfT p1).map mkP)) [32])) = toB s:=by
 have hj:=joinTail_cut 59 s
 rw [hc,Lib.join_cons,Lib.joinTail,List.map_cons,List.flatten_cons,← Lib.joinTail] at hj
 rw [List.length_map,facesB_text rest h2 rest.length 0 _ (by omega),ptsOfT_text h1,List.drop_zero]
 unfold hdL
 rw [szOf_text h0,← hj]
 simp
theorem text_ne {s p0 p1 : List UInt8} {rest : List (List UInt8)} (hc : cutAll 59 s = p0 :: p1 :: rest) : s ≠ []:=by
 rintro rfl
 rw [show cutAll 59 ([] : List UInt8) = [[]] from rfl] at hc
 simp at hc
theorem Lib_cut_le (p : List UInt8) (c : UInt8) : (Lib.cut p [c]).1.length ≤ p.length ∧ (Lib.cut p [c]).2.1.length ≤ p.length:=by
 unfold Lib.cut
 split
 ·simp only [List.length_take,List.length_drop]
  omega
 ·simp
theorem two_sizes {s p0 p1 : List UInt8} {rest : List (List UInt8)} (hc : cutAll 59 s = p0 :: p1 :: rest) : p1.length + 1 ≤ s.length ∧ rest.length + 1 ≤ s.length:=by
 have hj:=joinTail_cut 59 s
 have hl:=cutAll_length 59 s
 rw [hc] at hl hj
 rw [Lib.join_cons,Lib.joinTail,List.map_cons,List.flatten_cons] at hj
 have:=congrArg List.length hj
 simp only [List.length_append,List.length_cons,List.length_nil] at this hl
 omega

theorem p_ext {x y : S36} (h0 : x.f0 = y.f0) (h1 : x.f1 = y.f1) : x = y:=by
 cases x
 cases y
 simp_all
theorem getD_set_self (x : List S36) (i : Nat) (v : S36) (h : i < x.length) : (x.set i v).getD i z36 = v:=by
 rw [List.getD_eq_getElem?_getD,List.getElem?_set_self h]
 rfl
theorem getD_set_ne (x : List S36) (i j : Nat) (v : S36) (h : i ≠ j) : (x.set i v).getD j z36 = x.getD j z36:=by
 rw [List.getD_eq_getElem?_getD,List.getElem?_set_ne h,List.getD_eq_getElem?_getD]
theorem mark_loop (n : Nat) (hn : n ≤ 1000000000) : ∀ (d k i : Nat) (x : List S36),x.length = n → i ≤ n → n - i ≤ d → d < k → (∀ j,j < i → x.getD j z36 = ⟨1 + 2 * (j : Int),1 + 2 * (j : Int) + 1⟩) →
  ∃ m : List S36,laws_markPointS.l0 k x (1 + 2 * (i : Int)) i = some (1 + 2 * (n : Int),m) ∧ m.length = n ∧ ∀ j,j < n → m.getD j z36 = ⟨1 + 2 * (j : Int),1 + 2 * (j : Int) + 1⟩
 | d,0,i,x,_,_,_,h,_ => absurd h (by omega)
 | d,k + 1,i,x,hx,hi,h1,h2,hm => by
  simp only [laws_markPointS.l0]
  by_cases hlt : i < n
  ·rw [if_pos (by omega),if_pos (by omega),Option.bind_some,Int.toNat_natCast,rdN,rdN,getD_set_self x i _ (by omega),w1 (by omega),w64 (x:=1 + 2 * (i : Int) + 1) (by omega) (by omega),w64 (x:=1 + 2 * (i : Int) + 1 + 1) (by omega) (by omega)]
   have:=mark_loop n hn (d - 1) k (i + 1) ((x.set i ⟨1 + 2 * (i : Int),(x.getD i z36).f1⟩).set i ⟨1 + 2 * (i : Int),1 + 2 * (i : Int) + 1⟩) (by simp [hx]) (by omega) (by omega) (by omega) (fun j hj => by
    by_cases e : i = j
    ·subst e
     rw [getD_set_self _ _ _ (by simp;omega)]
    ·rw [getD_set_ne _ _ _ _ e,getD_set_ne _ _ _ _ e]
     exact hm j (by omega))
   rw [show (1 + 2 * (i : Int) + 1 + 1) = 1 + 2 * ((i + 1 : Nat) : Int) by omega]
   exact this
  ·have e : i = n:=by omega
   subst e
   exact ⟨x,by rw [if_neg (by omega)],hx,hm⟩
theorem marked (x : List S36) (hn : x.length ≤ 1000000000) : ∃ (n : Int) (m : List S36),0 < n ∧ (∀ k,x.length < k → laws_markPointS.f k x 1 = some (n,m)):=by
 obtain ⟨m,h1,h2,h3⟩:=mark_loop x.length hn x.length (x.length + 1) 0 x rfl (by omega) (by omega) (by omega) (fun j hj => absurd hj (by omega))
 refine ⟨1 + 2 * (x.length : Int),m,by omega,fun k hk => ?_⟩
 unfold laws_markPointS.f
 exact at_rounds (fun k => laws_markPointS.mono_l k _ _ _) (show x.length + 1 ≤ k by omega) h1

theorem pmark_at (n : Nat) (hn : n ≤ 1048576) (a : Int) (ha : 0 ≤ a ∧ a ≤ 1000000000000) : ∀ (d i : Nat) (x : List S36),x.length = n → i ≤ n → n - i ≤ d → (∀ j,j < i → x.getD j z36 = ⟨a + 2 * (j : Int),a + 2 * (j : Int) + 1⟩) →
  ∃ m : List S36,m.length = n ∧ (∀ j,j < n → m.getD j z36 = ⟨a + 2 * (j : Int),a + 2 * (j : Int) + 1⟩) ∧ ∀ k,d < k → laws_markPointS.l0 k x (a + 2 * (i : Int)) i = some (a + 2 * (n : Int),m):=by
 intro d
 induction d with
 | zero =>
  intro i x hx hi h1 hm
  obtain rfl : i = n:=by omega
  refine ⟨x,hx,hm,fun k hk => ?_⟩
  obtain ⟨k,rfl⟩ : ∃ q,k = q + 1:=⟨k - 1,by omega⟩
  simp only [laws_markPointS.l0]
  rw [if_neg (by omega)]
 | succ d ih =>
  intro i x hx hi h1 hm
  by_cases hlt : i < n
  ·obtain ⟨m,g1,g2,g3⟩:=ih (i + 1) ((x.set i ⟨a + 2 * (i : Int),(x.getD i z36).f1⟩).set i ⟨a + 2 * (i : Int),a + 2 * (i : Int) + 1⟩) (by simp [hx]) (by omega) (by omega) (fun j hj => by
    by_cases e : i = j
    ·subst e
     rw [getD_set_self _ _ _ (by simp;omega)]
    ·rw [getD_set_ne _ _ _ _ e,getD_set_ne _ _ _ _ e]
     exact hm j (by omega))
   refine ⟨m,g1,g2,fun k hk => ?_⟩
   obtain ⟨k,rfl⟩ : ∃ q,k = q + 1:=⟨k - 1,by omega⟩
   simp only [laws_markPointS.l0]
   rw [if_pos (by omega),if_pos (by omega),Option.bind_some,Int.toNat_natCast,rdN,rdN,getD_set_self x i _ (by omega),w1 (by omega),w64 (x:=a + 2 * (i : Int) + 1) (by omega) (by omega),w64 (x:=a + 2 * (i : Int) + 1 + 1) (by omega) (by omega)]
   have:=g3 k (by omega)
   rw [show a + 2 * (i : Int) + 1 + 1 = a + 2 * ((i + 1 : Nat) : Int) by omega]
   exact this
  ·obtain rfl : i = n:=by omega
   refine ⟨x,hx,hm,fun k hk => ?_⟩
   obtain ⟨k,rfl⟩ : ∃ q,k = q + 1:=⟨k - 1,by omega⟩
   simp only [laws_markPointS.l0]
   rw [if_neg (by omega)]

theorem pheld_at (n : Nat) (hn : n ≤ 1048576) (a : Int) (ha : 0 ≤ a ∧ a ≤ 1000000000000) (m : List S36) (hl : m.length = n) (hm : ∀ j,j < n → m.getD j z36 = ⟨a + 2 * (j : Int),a + 2 * (j : Int) + 1⟩) : ∀ (d k i : Nat),i ≤ n → n - i ≤ d → d < k →
  laws_heldPointS.l0 k m (a + 2 * (i : Int)) i = some (a + 2 * (n : Int))
 | d,0,i,_,_,h => absurd h (by omega)
 | 0,k + 1,i,hi,h1,_ => by
  obtain rfl : i = n:=by omega
  simp only [laws_heldPointS.l0]
  rw [if_neg (by omega)]
 | d + 1,k + 1,i,hi,h1,h2 => by
  simp only [laws_heldPointS.l0]
  by_cases hlt : i < n
  ·have e:=hm i hlt
   rw [if_pos (by omega),if_pos (by omega),rdN,e]
   simp only
   rw [if_pos trivial,w64 (x:=a + 2 * (i : Int) + 1) (by omega) (by omega),if_pos rfl,w1 (by omega),w64 (by omega) (by omega),show a + 2 * (i : Int) + 1 + 1 = a + 2 * ((i + 1 : Nat) : Int) by omega]
   exact pheld_at n hn a ha m hl hm d k (i + 1) (by omega) (by omega) (by omega)
  ·obtain rfl : i = n:=by omega
   rw [if_neg (by omega)]
theorem pmark_held_at (x : List S36) (hn : x.length ≤ 1048576) (a : Int) (ha : 0 ≤ a ∧ a ≤ 1000000000000) : ∃ m : List S36,m.length = x.length ∧ (∀ k,x.length < k → laws_markPointS.f k x a = some (a + 2 * x.length,m)) ∧ (∀ k,x.length < k → laws_heldPointS.f k m a = some (a + 2 * x.length)):=by
 have z0 : a + 2 * ((0 : Nat) : Int) = a:=by omega
 obtain ⟨m,g1,g2,g3⟩:=pmark_at x.length hn a ha x.length 0 x rfl (by omega) (by omega) (fun j hj => absurd hj (by omega))
 refine ⟨m,g1,fun k hk => ?_,fun k hk => ?_⟩
 ·unfold laws_markPointS.f
  have:=g3 k hk
  rw [z0] at this
  exact this
 ·unfold laws_heldPointS.f
  have:=pheld_at x.length hn a ha m g1 g2 x.length k 0 (by omega) (by omega) hk
  rw [z0] at this
  exact this

theorem getI_set_self (x : List Int) (i : Nat) (v : Int) (h : i < x.length) : (x.set i v).getD i 0 = v:=by
 rw [List.getD_eq_getElem?_getD,List.getElem?_set_self h]
 rfl
theorem getI_set_ne (x : List Int) (i j : Nat) (v : Int) (h : i ≠ j) : (x.set i v).getD j 0 = x.getD j 0:=by
 rw [List.getD_eq_getElem?_getD,List.getElem?_set_ne h,List.getD_eq_getElem?_getD]
theorem imark_loop (n : Nat) (hn : n ≤ 1000000000) (a : Int) (ha : 0 ≤ a ∧ a ≤ 1000000000000000) : ∀ (d k i : Nat) (x : List Int),x.length = n → i ≤ n → n - i ≤ d → d < k → (∀ j,j < i → x.getD j 0 = a + j) →
  ∃ m : List Int,laws_markInt64S.l0 k x (a + i) i = some (a + (n : Int),m) ∧ m.length = n ∧ ∀ j,j < n → m.getD j 0 = a + j
 | d,0,i,x,_,_,_,h,_ => absurd h (by omega)
 | d,k + 1,i,x,hx,hi,h1,h2,hm => by
  simp only [laws_markInt64S.l0]
  by_cases hlt : i < n
  ·rw [if_pos (by omega),if_pos (by omega),Int.toNat_natCast,w1' (by omega),w64 (x:=a + (i : Int) + 1) (by omega) (by omega),show (a + (i : Int) + 1) = a + ((i + 1 : Nat) : Int) by omega]
   exact imark_loop n hn a ha (d - 1) k (i + 1) (x.set i (a + i)) (by simp [hx]) (by omega) (by omega) (by omega) (fun j hj => by
    by_cases e : i = j
    ·subst e
     rw [getI_set_self _ _ _ (by omega)]
    ·rw [getI_set_ne _ _ _ _ e]
     exact hm j (by omega))
  ·have e : i = n:=by omega
   subst e
   exact ⟨x,by rw [if_neg (by omega)],hx,hm⟩
theorem iheld_loop (n : Nat) (hn : n ≤ 1000000000) (a : Int) (ha : 0 ≤ a ∧ a ≤ 1000000000000000) (m : List Int) (hl : m.length = n) (hm : ∀ j,j < n → m.getD j 0 = a + j) : ∀ (d k i : Nat),i ≤ n → n - i ≤ d → d < k → laws_heldInt64S.l0 k m (a + i) i = some (a + n)
 | d,0,i,_,_,h => absurd h (by omega)
 | d,k + 1,i,hi,h1,h2 => by
  simp only [laws_heldInt64S.l0]
  by_cases hlt : i < n
  ·rw [if_pos (by omega),if_pos (by omega),rd_nat,hm i hlt,if_pos rfl,w1' (by omega),w64 (x:=a + (i : Int) + 1) (by omega) (by omega),show (a + (i : Int) + 1) = a + ((i + 1 : Nat) : Int) by omega]
   exact iheld_loop n hn a ha m hl hm (d - 1) k (i + 1) (by omega) (by omega) (by omega)
  ·rw [if_neg (by omega),show i = n by omega]
/-- What is marked is held. -/
theorem imark_held_at (x : List Int) (hn : x.length ≤ 1000000000) (a : Int) (ha : 0 ≤ a ∧ a ≤ 1000000000000000) : ∃ m : List Int,m.length = x.length ∧ (∀ k,x.length < k → laws_markInt64S.f k x a = some (a + x.length,m)) ∧ (∀ k,x.length < k → laws_heldInt64S.f k m a = some (a + x.length)):=by
 have h0:=fun k (hk : x.length < k) => imark_loop x.length hn a ha x.length k 0 x rfl (by omega) (by omega) hk (fun j hj => absurd hj (by omega))
 obtain ⟨m,h1,h2,h3⟩:=h0 (x.length + 1) (by omega)
 simp only [Int.natCast_zero,Int.add_zero] at h1
 refine ⟨m,h2,fun k hk => ?_,fun k hk => ?_⟩
 ·unfold laws_markInt64S.f
  exact at_rounds (fun k => laws_markInt64S.mono_l k _ _ _) (show x.length + 1 ≤ k by omega) h1
 ·unfold laws_heldInt64S.f
  have:=iheld_loop x.length hn a ha m h2 h3 x.length k 0 (by omega) (by omega) hk
  simp only [Int.natCast_zero,Int.add_zero] at this
  exact this
theorem imark_held (x : List Int) (hn : x.length ≤ 1000000000) : ∃ (n : Int) (m : List Int),0 < n ∧ (∀ k,x.length < k → laws_markInt64S.f k x 1 = some (n,m)) ∧ (∀ k,x.length < k → laws_heldInt64S.f k m 1 = some n):=by
 obtain ⟨m,_,h1,h2⟩:=imark_held_at x hn 1 (by omega)
 exact ⟨1 + x.length,m,by omega,h1,h2⟩

theorem mtext_loop : ∀ (d : Nat) (x : Int) (t : ByteArray),x < 10 ^ d → x ≤ 9000000000000000000 → t.size + d ≤ 1000 → ∃ r,∀ k,d < k → laws_markText.l0 k x t = some r
 | d,x,t,hd,hx,ht => by
  by_cases h0 : x > 0
  ·cases d with
   | zero => simp at hd;omega
   | succ d =>
    have e1 : (strOfNums [(wrap64 (48 + (Int.tmod x 10))) % 256]).size = 1:=rfl
    have hq : Int.tdiv x 10 < 10 ^ d:=by
     rw [Int.tdiv_eq_ediv_of_nonneg (by omega)]
     rw [Int.pow_succ] at hd
     omega
    have hq2 : Int.tdiv x 10 ≤ 9000000000000000000:=by
     rw [Int.tdiv_eq_ediv_of_nonneg (by omega)]
     omega
    have hq3 : 0 ≤ Int.tdiv x 10:=by
     rw [Int.tdiv_eq_ediv_of_nonneg (by omega)]
     omega
    obtain ⟨r,hr⟩:=mtext_loop d (Int.tdiv x 10) (strOfNums [(wrap64 (48 + (Int.tmod x 10))) % 256] ++ t) hq hq2 (by rw [ByteArray.size_append,e1];omega)
    refine ⟨r,fun k hk => ?_⟩
    obtain ⟨k,rfl⟩ : ∃ m,k = m + 1:=⟨k - 1,by omega⟩
    rw [laws_markText.l0,if_pos h0,Option.bind_some,e1,if_pos (by omega),w64 (x:=Int.tdiv x 10) (by omega) (by omega)]
    exact hr k (by omega)
  ·refine ⟨(⟨#[109]⟩ : ByteArray) ++ t,fun k hk => ?_⟩
   obtain ⟨k,rfl⟩ : ∃ m,k = m + 1:=⟨k - 1,by omega⟩
   rw [laws_markText.l0,if_neg h0,if_pos (by omega)]
theorem mtext (x : Int) (hx : x ≤ 1000000000000000) : ∃ t,∀ k,20 ≤ k → laws_markText.f k x = some t:=by
 by_cases h0 : x ≤ 0
 ·refine ⟨(⟨#[109,48]⟩ : ByteArray),fun k _ => ?_⟩
  unfold laws_markText.f
  rw [if_pos h0]
 ·have e : (10 : Int) ^ 16 = 10000000000000000:=by decide
  have hz : (⟨#[]⟩ : ByteArray).size = 0:=rfl
  obtain ⟨r,hr⟩:=mtext_loop 16 x (⟨#[]⟩ : ByteArray) (by omega) (by omega) (by omega)
  refine ⟨r,fun k hk => ?_⟩
  unfold laws_markText.f
  rw [if_neg h0]
  exact hr k (by omega)
theorem fset_self (x : List S45) (i : Nat) (v : S45) (h : i < x.length) : (x.set i v).getD i z45 = v:=by
 rw [List.getD_eq_getElem?_getD,List.getElem?_set_self h]
 rfl
theorem fset_ne (x : List S45) (i j : Nat) (v : S45) (h : i ≠ j) : (x.set i v).getD j z45 = x.getD j z45:=by
 rw [List.getD_eq_getElem?_getD,List.getElem?_set_ne h,List.getD_eq_getElem?_getD]
/-- Faces that are marked are held. -/
theorem fmh_at (n : Nat) (hn : n ≤ 1048576) : ∀ (d i : Nat) (x : List S45) (a : Int),x.length = n → i ≤ n → n - i ≤ d → (∀ j,j < n → (x.getD j z45).f1.length ≤ 1048576) → 0 ≤ a ∧ a ≤ 3000000 + 1048577 * (i : Int) →
  ∃ (q : Int) (m : List S45),a ≤ q ∧ m.length = n ∧ (∀ j,j < i → m.getD j z45 = x.getD j z45) ∧ (∀ k,1048600 + d < k → laws_markFaceS.l0 k x a i = some (q,m)) ∧ (∀ k,1048600 + d < k → laws_heldFaceS.l0 k m a i = some q):=by
 intro d
 induction d with
 | zero =>
  intro i x a hx hi h1 hr ha
  refine ⟨a,x,Int.le_refl _,hx,fun _ _ => rfl,fun k hk => ?_,fun k hk => ?_⟩
  ·obtain ⟨k,rfl⟩ : ∃ q,k = q + 1:=⟨k - 1,by omega⟩
   simp only [laws_markFaceS.l0]
   rw [if_neg (by omega)]
  ·obtain ⟨k,rfl⟩ : ∃ q,k = q + 1:=⟨k - 1,by omega⟩
   simp only [laws_heldFaceS.l0]
   rw [if_neg (by omega)]
 | succ d ih =>
  intro i x a hx hi h1 hr ha
  by_cases hlt : i < n
  ·obtain ⟨t,ht⟩:=mtext a (by omega)
   have hl:=hr i hlt
   obtain ⟨mi,e0,e1,e2⟩:=imark_held_at (x.getD i z45).f1 (by omega) (a + 1) (by omega)
   obtain ⟨q,m,g1,gl,gm,g2,g3⟩:=ih (i + 1) ((x.set i ⟨t,(x.getD i z45).f1⟩).set i ⟨t,mi⟩) (a + 1 + (x.getD i z45).f1.length) (by rw [List.length_set,List.length_set];exact hx) (by omega) (by omega) (fun j hj => by
    by_cases e : i = j
    ·subst e
     rw [fset_self _ _ _ (by rw [List.length_set];omega)]
     show mi.length ≤ 1048576
     omega
    ·rw [fset_ne _ _ _ _ e,fset_ne _ _ _ _ e]
     exact hr j hj) (by omega)
   have hmi:=gm i (by omega)
   rw [fset_self _ _ _ (by rw [List.length_set];omega)] at hmi
   refine ⟨q,m,by omega,gl,fun j hj => ?_,fun k hk => ?_,fun k hk => ?_⟩
   ·rw [gm j (by omega),fset_ne _ _ _ _ (by omega),fset_ne _ _ _ _ (by omega)]
   ·obtain ⟨k,rfl⟩ : ∃ q,k = q + 1:=⟨k - 1,by omega⟩
    have g:=g2 k (by omega)
    have f1 : (x.set i (⟨t,(x.getD i z45).f1⟩ : S45)).getD i z45 = ⟨t,(x.getD i z45).f1⟩:=fset_self _ _ _ (by omega)
    simp only [laws_markFaceS.l0]
    rw [if_pos (by omega),if_pos (by omega),ht k (by omega),Option.bind_some,Int.toNat_natCast,f1,w64 (x:=a + 1) (by omega) (by omega),e1 k (by omega),Option.bind_some,w1 (by omega)]
    exact g
   ·obtain ⟨k,rfl⟩ : ∃ q,k = q + 1:=⟨k - 1,by omega⟩
    have g:=g3 k (by omega)
    simp only [laws_heldFaceS.l0]
    rw [if_pos (by omega),if_pos (by omega),ht k (by omega),Option.bind_some,rdF_nat,hmi,if_pos rfl,w64 (x:=a + 1) (by omega) (by omega)]
    show (laws_heldInt64S.f k mi (a + 1)).bind _ = _
    rw [e2 k (by omega),Option.bind_some,if_neg (by omega),w1 (by omega)]
    exact g
  ·refine ⟨a,x,Int.le_refl _,hx,fun _ _ => rfl,fun k hk => ?_,fun k hk => ?_⟩
   ·obtain ⟨k,rfl⟩ : ∃ q,k = q + 1:=⟨k - 1,by omega⟩
    simp only [laws_markFaceS.l0]
    rw [if_neg (by omega)]
   ·obtain ⟨k,rfl⟩ : ∃ q,k = q + 1:=⟨k - 1,by omega⟩
    simp only [laws_heldFaceS.l0]
    rw [if_neg (by omega)]
/-- A drawing that is marked is held. -/
theorem mark_held_drawing (w h : Int) (pts : List S36) (fs : List S45) (hp : pts.length ≤ 1048576) (hf : fs.length ≤ 1048576) (hs : ShortP fs) : ∃ (q : Int) (m1 : List S36) (m2 : List S45),0 ≤ q ∧ (∀ k,3150000 ≤ k → laws_markDrawing.f k w h pts fs 1 = some (q,m1,m2)) ∧ (∀ k,3150000 ≤ k → laws_heldDrawing.f k w h m1 m2 1 = some q):=by
 obtain ⟨m1,_,a1,a2⟩:=pmark_held_at pts hp 1 (by omega)
 obtain ⟨q,m2,e0,_,_,e1,e2⟩:=fmh_at fs.length hf fs.length 0 fs (1 + 2 * (pts.length : Int)) rfl (by omega) (by omega) (fun j hj => (hs j hj).2) (by omega)
 simp only [Int.natCast_zero] at e1 e2
 refine ⟨q,m1,m2,by omega,fun k hk => ?_,fun k hk => ?_⟩
 ·unfold laws_markDrawing.f laws_markFaceS.f
  rw [a1 k (by omega),Option.bind_some]
  dsimp only
  rw [e1 k (by omega),Option.bind_some]
 ·unfold laws_heldDrawing.f laws_heldFaceS.f
  rw [a2 k (by omega),Option.bind_some,if_neg (by omega),e2 k (by omega),Option.bind_some,if_neg (by omega)]
theorem eqDrawing_same (w h : Int) (pts : List S36) (fs : List S45) (hp : pts.length ≤ 1048576) (hl : fs.length ≤ 1048576) (hs : ShortP fs) (k : Nat) (hk : 3000000 ≤ k) : laws_eqDrawing.f k w h pts fs w h pts fs = some true:=by
 unfold laws_eqDrawing.f laws_eqFaceS.f
 rw [if_pos rfl,if_pos rfl,eqPointS_self pts (by omega) k (by omega),Option.bind_some,if_pos rfl,if_pos rfl]
 have:=eqFaceS_loop fs hl (fun j hj => (hs j hj).2) 1048577 (by omega) fs.length k 0 (by omega) (by omega)
 simp only [Int.natCast_zero] at this
 rw [this]
 rfl

theorem spec_size (p : List UInt8) (hp : p.length ≤ 1048576) (k : Nat) (hk : p.length + 40 ≤ k) : ∃ a b,spec_l05ReadSize.f k (toB p) = some (a,b,(szOf p).2.2) ∧ ((szOf p).2.2 = true → a = (szOf p).1 ∧ b = (szOf p).2.1):=by
 have hz:=cutAll_sizes 120 p
 have e : (((120 : UInt8).toNat : Nat) : Int) = 120:=rfl
 have h:=spec_split 120 (toB p) (by rw [toB_size];omega) k (by rw [toB_size];omega)
 rw [e,data_toB] at h
 unfold spec_l05ReadSize.f szOf
 rw [h,Option.bind_some]
 match hc : cutAll 120 p with
 | [] => exact absurd hc (cutAll_ne _ _)
 | [a] => exact ⟨0,0,rfl,fun h => by cases h⟩
 | [a,b] =>
  have ha:=hz a (by rw [hc];simp)
  have hb:=hz b (by rw [hc];simp)
  refine ⟨(numL a).1,(numL b).1,?_,fun _ => ⟨rfl,rfl⟩⟩
  simp only [List.map_cons,List.map_nil,List.length_cons,List.length_nil,rd0,rd1]
  rw [spec_num' a (by omega) k (by omega),spec_num' b (by omega) k (by omega)]
  simp only [Option.bind_some]
  rw [if_pos (by decide),if_pos (by decide),if_pos (by decide)]
  cases (numL a).2 <;> simp
 | a :: b :: c :: l =>
  simp only [List.map_cons,List.length_cons]
  rw [if_neg (by omega)]
  exact ⟨0,0,rfl,fun h => by cases h⟩
theorem impl_size (p : List UInt8) (hp : p.length ≤ 1048576) (k : Nat) (hk : p.length + 40 ≤ k) : ∃ a b,impl_readSize.f k (toB p) = some (a,b,(szOf p).2.2) ∧ ((szOf p).2.2 = true → a = (szOf p).1 ∧ b = (szOf p).2.1):=by
 obtain ⟨h1,h2⟩:=szOf_cut p
 have hs:=Lib_cut_le p 120
 refine ⟨(numL (Lib.cut p [120]).1).1,(numL (Lib.cut p [120]).2.1).1,?_,h2⟩
 unfold impl_readSize.f
 rw [impl_cut 120 (toB p) (by rw [toB_size];omega),Option.bind_some,data_toB]
 simp only
 rw [impl_num' _ (by omega) k (by omega),impl_num' _ (by omega) k (by omega),Option.bind_some,Option.bind_some,← h1]
 cases (Lib.cut p [120]).2.2 <;> cases (numL (Lib.cut p [120]).1).2 <;> simp
/-- What is read of a text. -/
def rdRes (p0 p1 : List UInt8) (rest : List (List UInt8)) : Int × Int × List S36 × List S45 × Bool :=
 if ((szOf p0).2.2 && ((ptsOfT p1).all (fun x => (ptOf x).2.2) && (rest.all (fun x => (fcOf x).2.2) && drawB (szOf p0).1 (szOf p0).2.1 ((ptsOfT p1).map mkP) (rest.map mkF)))) = true then ((szOf p0).1,(szOf p0).2.1,(ptsOfT p1).map mkP,rest.map mkF,true) else (0,0,[],[],false)
theorem mkF_short (p : List (List UInt8)) (hs : ∀ x ∈ p,x.length ≤ 1048576) : ShortP (p.map mkF):=by
 intro j hj
 rw [List.length_map] at hj
 have e : (p.map mkF).getD j z45 = mkF p[j]:=by
  rw [List.getD_eq_getElem?_getD,List.getElem?_eq_getElem (by rw [List.length_map];exact hj),List.getElem_map]
  rfl
 have h:=fcOf_len p[j]
 have h2:=hs p[j] (List.getElem_mem hj)
 rw [e]
 unfold mkF
 simp only [toB_size]
 omega
theorem spec_faces_read (q : List (List UInt8)) (hq : q.length ≤ 1048577) (hs : ∀ x ∈ q,x.length ≤ 1048576) (a b : Int) (pts : List S36) (hp : pts.length ≤ 1048576) (R : List S45) (hR : R.length ≤ 1048576) (hRs : ShortP R) : ∀ (d i k : Nat) (acc : List S45),i + d = q.length → d + 3150100 < k → acc.length ≤ i → acc ++ (q.drop i).map mkF = R →
  spec_l05Read.l1 k (q.map toB) i a b pts acc = some (if ((q.drop i).all (fun x => (fcOf x).2.2) && drawB a b pts R) = true then (a,b,pts,R,true) else (0,0,[],[],false))
 | d,i,0,acc,_,h,_,_ => absurd h (Nat.not_lt_zero _)
 | 0,i,k + 1,acc,h,hk,ha,hr => by
  rw [List.drop_eq_nil_of_le (by omega),List.map_nil,List.append_nil] at hr
  subst hr
  rw [spec_l05Read.l1,if_neg (by rw [List.length_map];omega),List.drop_eq_nil_of_le (by omega),List.all_nil,Bool.true_and]
  unfold spec_l05OkB.f
  dsimp only
  rw [spec_draw_eq a b pts acc hp hR hRs k (by omega),Option.bind_some,Option.bind_some]
  cases drawB a b pts acc <;> rfl
 | d + 1,i,k + 1,acc,h,hk,ha,hr => by
  have hi : i < q.length:=by omega
  have hsi:=hs q[i] (List.getElem_mem hi)
  have hz:=cutAll_sizes 32 q[i]
  have e : (((32 : UInt8).toNat : Nat) : Int) = 32:=rfl
  have hsp:=spec_split 32 (toB q[i]) (by rw [toB_size];omega) k (by rw [toB_size];omega)
  rw [e,data_toB] at hsp
  rw [spec_l05Read.l1,if_pos (by rw [List.length_map];omega),if_pos (by omega),map_rd q i hi,hsp,Option.bind_some,List.drop_eq_getElem_cons hi,List.all_cons]
  have next:=spec_faces_read q hq hs a b pts hp R hR hRs d (i + 1) k (acc ++ [mkF q[i]]) (by omega) (by omega) (by rw [List.length_append,List.length_singleton];omega) (by
   rw [List.drop_eq_getElem_cons hi,List.map_cons] at hr
   rw [List.append_assoc]
   exact hr)
  have hfc : fcOf q[i] = (match cutAll 32 q[i] with | [x,y] => (x,(listOf y).1,(listOf y).2) | _ => ([],[],false)):=rfl
  have hmk : mkF q[i] = ⟨toB (fcOf q[i]).1,(fcOf q[i]).2.1⟩:=rfl
  rw [hmk] at next
  match hc : cutAll 32 q[i] with
  | [] => exact absurd hc (cutAll_ne _ _)
  | [x] =>
   rw [hc] at hfc
   rw [hfc]
   rfl
  | [x,y] =>
   have hx:=hz x (by rw [hc];simp)
   have hy:=hz y (by rw [hc];simp)
   rw [hc] at hfc
   simp only at hfc
   rw [hfc] at next ⊢
   simp only [List.map_cons,List.map_nil,List.length_cons,List.length_nil,rd0,rd1]
   rw [if_pos (by decide),if_pos (by decide),spec_readlist y (by omega) k (by omega),Option.bind_some]
   cases hb : (listOf y).2
   ·simp
   ·rw [if_pos rfl,if_pos (by decide),if_pos (by omega),w64 (by omega) (by omega),show (i : Int) + 1 = ((i + 1 : Nat) : Int) by omega,Bool.true_and]
    exact next
  | x :: y :: z :: l =>
   rw [hc] at hfc
   rw [hfc]
   simp only [List.map_cons,List.length_cons]
   rw [if_neg (by omega)]
   rfl
theorem spec_pts_read (q p : List (List UInt8)) (hp : p.length ≤ 1048576) (hs : ∀ x ∈ p,x.length ≤ 1048576) (a b : Int) (K : Nat) (T : List S36) (r : Int × Int × List S36 × List S45 × Bool) (hr : ∀ k,K ≤ k → spec_l05Read.j1 k (q.map toB) a b T = some r) : ∀ (d i k : Nat) (acc : List S36),i + d = p.length → d + 1048700 + K < k → acc.length ≤ i → acc ++ (p.drop i).map mkP = T →
  spec_l05Read.l0 k (q.map toB) (p.map toB) i a b acc = some (if (p.drop i).all (fun x => (ptOf x).2.2) = true then r else (0,0,[],[],false))
 | d,i,0,acc,_,h,_,_ => absurd h (Nat.not_lt_zero _)
 | 0,i,k + 1,acc,h,hk,ha,ht => by
  rw [List.drop_eq_nil_of_le (by omega),List.map_nil,List.append_nil] at ht
  subst ht
  rw [spec_l05Read.l0,if_neg (by rw [List.length_map];omega),List.drop_eq_nil_of_le (by omega),if_pos List.all_nil]
  exact hr k (by omega)
 | d + 1,i,k + 1,acc,h,hk,ha,ht => by
  have hi : i < p.length:=by omega
  have hsi:=hs p[i] (List.getElem_mem hi)
  have next:=spec_pts_read q p hp hs a b K T r hr d (i + 1) k (acc ++ [mkP p[i]]) (by omega) (by omega) (by rw [List.length_append,List.length_singleton];omega) (by
   rw [List.drop_eq_getElem_cons hi,List.map_cons] at ht
   rw [List.append_assoc]
   exact ht)
  rw [spec_l05Read.l0,if_pos (by rw [List.length_map];omega),if_pos (by omega),map_rd p i hi,spec_read _ hsi k (by omega),Option.bind_some,w64 (by omega) (by omega),show (i : Int) + 1 = ((i + 1 : Nat) : Int) by omega,if_pos (show acc.length < 8796093022208 by omega),List.drop_eq_getElem_cons hi,List.all_cons]
  by_cases hb : (ptOf p[i]).2.2 = true
  ·rw [if_pos hb,hb,Bool.true_and]
   exact next
  ·rw [if_neg hb,Bool.eq_false_iff.2 hb,Bool.false_and]
   rfl
theorem impl_faces_read (s : List UInt8) (q : List (List UInt8)) (hq : q.length ≤ 1048577) (hs : ∀ x ∈ q,x.length ≤ 1048576) (a b : Int) (pts : List S36) (hp : pts.length ≤ 1048576) (R : List S45) (hR : R.length ≤ 1048576) (hRs : ShortP R) : ∀ (d i k : Nat) (acc : List S45),i + d = q.length → d + 3150100 < k → acc.length ≤ i → acc ++ (q.drop i).map mkF = R →
  impl_ReadDrawing.l1 k (toB s) (q.map toB) ((q.map toB).length : Int) i a b pts acc = some (if ((q.drop i).all (fun x => (fcOf x).2.2) && decide ((if drawB a b pts R = true then facesB R R.length 0 (toB (hdL a b ++ Lib.join (ptsL pts) [32])) else toB []) = toB s)) = true then (a,b,pts,R,true) else (0,0,[],[],false))
 | d,i,0,acc,_,h,_,_ => absurd h (Nat.not_lt_zero _)
 | 0,i,k + 1,acc,h,hk,ha,hr => by
  rw [List.drop_eq_nil_of_le (by omega),List.map_nil,List.append_nil] at hr
  subst hr
  rw [impl_ReadDrawing.l1,if_neg (by rw [List.length_map];omega),List.drop_eq_nil_of_le (by omega),List.all_nil,Bool.true_and,impl_drawText a b pts acc hp hR hRs k (by omega),Option.bind_some]
  by_cases c : (if drawB a b pts acc = true then facesB acc acc.length 0 (toB (hdL a b ++ Lib.join (ptsL pts) [32])) else toB []) = toB s
  ·rw [decide_eq_true c,if_pos (by rw [c]),if_pos rfl]
  ·rw [decide_eq_false c,if_neg (fun e => c (by rw [ByteArray.toList_eq,ByteArray.toList_eq] at e;rw [← toB_data (if drawB a b pts acc = true then facesB acc acc.length 0 (toB (hdL a b ++ Lib.join (ptsL pts) [32])) else toB []),e];rfl)),if_neg (by decide)]
 | d + 1,i,k + 1,acc,h,hk,ha,hr => by
  have hi : i < q.length:=by omega
  have hsi:=hs q[i] (List.getElem_mem hi)
  have hle:=Lib_cut_le q[i] 32
  obtain ⟨c1,c2⟩:=fcOf_cut q[i]
  rw [impl_ReadDrawing.l1,if_pos (by rw [List.length_map];omega),if_pos (by omega),if_pos (by rw [List.length_map];omega),map_rd q i hi,impl_cut 32 (toB q[i]) (by rw [toB_size];omega),Option.bind_some,data_toB,List.drop_eq_getElem_cons hi,List.all_cons]
  simp only
  have next:=impl_faces_read s q hq hs a b pts hp R hR hRs d (i + 1) k (acc ++ [mkF q[i]]) (by omega) (by omega) (by rw [List.length_append,List.length_singleton];omega) (by
   rw [List.drop_eq_getElem_cons hi,List.map_cons] at hr
   rw [List.append_assoc]
   exact hr)
  rw [impl_readlist _ (by omega) k (by omega),Option.bind_some,c1]
  by_cases hb : (fcOf q[i]).2.2 = true
  ·obtain ⟨c3,c4⟩:=c2 hb
   rw [if_pos hb,hb,Bool.true_and,if_pos (by omega),w64 (by omega) (by omega),show (i : Int) + 1 = ((i + 1 : Nat) : Int) by omega,c3,c4]
   exact next
  ·rw [if_neg hb,Bool.eq_false_iff.2 hb,Bool.false_and]
   rfl
theorem impl_pts_read (s : List UInt8) (q p : List (List UInt8)) (hp : p.length ≤ 1048576) (hs : ∀ x ∈ p,x.length ≤ 1048576) (a b : Int) (K : Nat) (T : List S36) (r : Int × Int × List S36 × List S45 × Bool) (hr : ∀ k,K ≤ k → impl_ReadDrawing.j1 k (toB s) (q.map toB) a b T = some r) : ∀ (d i k : Nat) (acc : List S36),i + d = p.length → d + 1048700 + K < k → acc.length ≤ i → acc ++ (p.drop i).map mkP = T →
  impl_ReadDrawing.l0 k (toB s) (q.map toB) (p.map toB) ((p.map toB).length : Int) i a b acc = some (if (p.drop i).all (fun x => (ptOf x).2.2) = true then r else (0,0,[],[],false))
 | d,i,0,acc,_,h,_,_ => absurd h (Nat.not_lt_zero _)
 | 0,i,k + 1,acc,h,hk,ha,ht => by
  rw [List.drop_eq_nil_of_le (by omega),List.map_nil,List.append_nil] at ht
  subst ht
  rw [impl_ReadDrawing.l0,if_neg (by rw [List.length_map];omega),List.drop_eq_nil_of_le (by omega),if_pos List.all_nil]
  exact hr k (by omega)
 | d + 1,i,k + 1,acc,h,hk,ha,ht => by
  have hi : i < p.length:=by omega
  have hsi:=hs p[i] (List.getElem_mem hi)
  have next:=impl_pts_read s q p hp hs a b K T r hr d (i + 1) k (acc ++ [mkP p[i]]) (by omega) (by omega) (by rw [List.length_append,List.length_singleton];omega) (by
   rw [List.drop_eq_getElem_cons hi,List.map_cons] at ht
   rw [List.append_assoc]
   exact ht)
  rw [impl_ReadDrawing.l0,if_pos (by rw [List.length_map];omega),if_pos (by omega),if_pos (by rw [List.length_map];omega),map_rd p i hi,impl_read _ hsi k (by omega),Option.bind_some,w64 (by omega) (by omega),show (i : Int) + 1 = ((i + 1 : Nat) : Int) by omega,if_pos (show acc.length < 8796093022208 by omega),List.drop_eq_getElem_cons hi,List.all_cons]
  by_cases hb : (ptOf p[i]).2.2 = true
  ·rw [if_pos hb,hb,Bool.true_and]
   exact next
  ·rw [if_neg hb,Bool.eq_false_iff.2 hb,Bool.false_and]
   rfl
theorem read_eq (s : List UInt8) (hs : s.length ≤ 1048576) : ∃ r : Int × Int × List S36 × List S45 × Bool,r.2.2.1.length ≤ 1048576 ∧ r.2.2.2.1.length ≤ 1048576 ∧ ShortP r.2.2.2.1 ∧ (∀ k,10000000 ≤ k → spec_ReadDrawing.f k (toB s) = some r) ∧ (∀ k,10000000 ≤ k → impl_ReadDrawing.f k (toB s) = some r):=by
 have hz:=fun x hx => Nat.le_trans (cutAll_sizes 59 s x hx) hs
 have hl:=cutAll_length 59 s
 have e : (((59 : UInt8).toNat : Nat) : Int) = 59:=rfl
 have hsp:=fun k (hk : 10000000 ≤ k) => spec_split 59 (toB s) (by rw [toB_size];omega) k (by rw [toB_size];omega)
 rw [e,data_toB] at hsp
 have him:=impl_split 59 (toB s) (by rw [toB_size];omega)
 rw [data_toB] at him
 have s0 : ShortP ([] : List S45):=fun j hj => absurd hj (by simp)
 match hc : cutAll 59 s with
 | [] => exact absurd hc (cutAll_ne _ _)
 | [x] =>
  rw [hc] at hsp him
  refine ⟨(0,0,[],[],false),by simp,by simp,s0,fun k hk => ?_,fun k hk => ?_⟩
  ·unfold spec_ReadDrawing.f spec_l05Read.f
   rw [hsp k hk]
   rfl
  ·unfold impl_ReadDrawing.f
   rw [him]
   rfl
 | p0 :: p1 :: rest =>
  obtain ⟨z1,z2⟩:=two_sizes hc
  have hq : ∀ x ∈ p0 :: p1 :: rest,x.length ≤ 1048576:=by rw [← hc];exact hz
  have hp0:=hq p0 (by simp)
  have hp1:=hq p1 (by simp)
  have hrest : ∀ x ∈ rest,x.length ≤ 1048576:=fun x hx => hq x (by simp [hx])
  have hpt : ∀ x ∈ ptsOfT p1,x.length ≤ 1048576:=by
   intro x hx
   unfold ptsOfT at hx
   split at hx
   ·cases hx
   ·exact Nat.le_trans (cutAll_sizes 32 p1 x hx) hp1
  have hpl : (ptsOfT p1).length ≤ 1048576:=by
   have:=cutAll_length 32 p1
   unfold ptsOfT
   split
   ·simp
   ·omega
  have hF:=mkF_short rest hrest
  have hFl : (rest.map mkF).length ≤ 1048576:=by rw [List.length_map];omega
  have hPl : ((ptsOfT p1).map mkP).length ≤ 1048576:=by rw [List.length_map];exact hpl
  rw [hc] at hsp him hl
  have hql : (p0 :: p1 :: rest).length ≤ 1048577:=by omega
  have e1 : p1 = [] → ptsOfT p1 = []:=fun h => by unfold ptsOfT;rw [if_pos h]
  have e2 : p1 ≠ [] → ptsOfT p1 = cutAll 32 p1:=fun h => by unfold ptsOfT;rw [if_neg h]
  refine ⟨rdRes p0 p1 rest,?_,?_,?_,fun k hk => ?_,fun k hk => ?_⟩
  ·unfold rdRes
   split
   ·exact hPl
   ·simp
  ·unfold rdRes
   split
   ·exact hFl
   ·simp
  ·unfold rdRes
   split
   ·exact hF
   ·exact s0
  ·have main : ∀ k,10000000 ≤ k → spec_l05Read.f k (toB s) = some (rdRes p0 p1 rest):=by
    intro k hk
    unfold spec_l05Read.f
    obtain ⟨a,b,g1,g2⟩:=spec_size p0 hp0 k (by omega)
    rw [hsp k hk,Option.bind_some,if_neg (by simp only [List.length_map,List.length_cons];omega),if_pos (by simp only [List.length_map,List.length_cons];omega)]
    simp only [List.map_cons,rd0,rd1]
    rw [g1,Option.bind_some]
    unfold rdRes
    cases hsz : (szOf p0).2.2 with
    | false => simp
    | true =>
     obtain ⟨rfl,rfl⟩:=g2 hsz
     rw [if_pos rfl,if_pos (by simp only [List.length_map,List.length_cons];omega),Bool.true_and,toList_toB]
     have hj : ∀ k,7000000 ≤ k → spec_l05Read.j1 k ((p0 :: p1 :: rest).map toB) (szOf p0).1 (szOf p0).2.1 ((ptsOfT p1).map mkP) = some (if (rest.all (fun x => (fcOf x).2.2) && drawB (szOf p0).1 (szOf p0).2.1 ((ptsOfT p1).map mkP) (rest.map mkF)) = true then ((szOf p0).1,(szOf p0).2.1,(ptsOfT p1).map mkP,rest.map mkF,true) else (0,0,[],[],false)):=by
      intro k hk
      obtain ⟨k,rfl⟩ : ∃ m,k = m + 1:=⟨k - 1,by omega⟩
      rw [spec_l05Read.j1]
      exact spec_faces_read (p0 :: p1 :: rest) hql hq _ _ _ hPl (rest.map mkF) hFl hF rest.length 2 k [] (by simp only [List.length_cons];omega) (by omega) (by simp) (by simp)
     by_cases h1 : p1 = []
     ·rw [if_pos h1]
      have:=hj k (by omega)
      rw [e1 h1] at this ⊢
      exact this
     ·rw [if_neg h1]
      have e : (((32 : UInt8).toNat : Nat) : Int) = 32:=rfl
      have hs2:=spec_split 32 (toB p1) (by rw [toB_size];omega) k (by rw [toB_size];omega)
      rw [e,data_toB,← e2 h1] at hs2
      rw [hs2,Option.bind_some]
      have:=spec_pts_read (p0 :: p1 :: rest) (ptsOfT p1) hpl hpt _ _ 7000000 _ _ hj (ptsOfT p1).length 0 k [] (by omega) (by omega) (by simp) (by simp)
      rw [List.drop_zero] at this
      refine Eq.trans this ?_
      cases (ptsOfT p1).all (fun x => (ptOf x).2.2) <;> simp
   unfold spec_ReadDrawing.f
   rw [main k hk]
   rfl
  ·unfold impl_ReadDrawing.f
   obtain ⟨a,b,g1,g2⟩:=impl_size p0 hp0 k (by omega)
   rw [him,Option.bind_some,if_neg (by simp only [List.length_map,List.length_cons];omega),if_pos (by simp only [List.length_map,List.length_cons];omega)]
   simp only [List.map_cons,rd0,rd1]
   rw [g1,Option.bind_some]
   unfold rdRes
   cases hsz : (szOf p0).2.2 with
   | false => simp
   | true =>
    obtain ⟨rfl,rfl⟩:=g2 hsz
    rw [if_pos rfl,if_pos (by simp only [List.length_map,List.length_cons];omega),Bool.true_and,toList_toB]
    have hj : ∀ k,7000000 ≤ k → impl_ReadDrawing.j1 k (toB s) ((p0 :: p1 :: rest).map toB) (szOf p0).1 (szOf p0).2.1 ((ptsOfT p1).map mkP) = some (if (rest.all (fun x => (fcOf x).2.2) && decide ((if drawB (szOf p0).1 (szOf p0).2.1 ((ptsOfT p1).map mkP) (rest.map mkF) = true then facesB (rest.map mkF) (rest.map mkF).length 0 (toB (hdL (szOf p0).1 (szOf p0).2.1 ++ Lib.join (ptsL ((ptsOfT p1).map mkP)) [32])) else toB []) = toB s)) = true then ((szOf p0).1,(szOf p0).2.1,(ptsOfT p1).map mkP,rest.map mkF,true) else (0,0,[],[],false)):=by
     intro k hk
     obtain ⟨k,rfl⟩ : ∃ m,k = m + 1:=⟨k - 1,by omega⟩
     rw [impl_ReadDrawing.j1,if_pos (by simp only [List.length_map,List.length_cons];omega),Option.bind_some]
     have:=impl_faces_read s rest (by omega) hrest (szOf p0).1 (szOf p0).2.1 _ hPl (rest.map mkF) hFl hF rest.length 0 k [] (by omega) (by omega) (by simp) (by simp)
     rw [List.drop_zero] at this
     exact this
    have fin : (ptsOfT p1).all (fun x => (ptOf x).2.2) = true → (rest.all (fun x => (fcOf x).2.2) && decide ((if drawB (szOf p0).1 (szOf p0).2.1 ((ptsOfT p1).map mkP) (rest.map mkF) = true then facesB (rest.map mkF) (rest.map mkF).length 0 (toB (hdL (szOf p0).1 (szOf p0).2.1 ++ Lib.join (ptsL ((ptsOfT p1).map mkP)) [32])) else toB []) = toB s)) = (rest.all (fun x => (fcOf x).2.2) && drawB (szOf p0).1 (szOf p0).2.1 ((ptsOfT p1).map mkP) (rest.map mkF)):=by
     intro hp
     cases hf : rest.all (fun x => (fcOf x).2.2) with
     | false => rfl
     | true =>
      rw [Bool.true_and,Bool.true_and]
      by_cases hd : drawB (szOf p0).1 (szOf p0).2.1 ((ptsOfT p1).map mkP) (rest.map mkF) = true
      ·rw [if_pos hd,hd]
       exact decide_eq_true (text_back hc hsz (List.all_eq_true.1 hp) (List.all_eq_true.1 hf))
      ·rw [if_neg hd,Bool.eq_false_iff.2 hd]
       exact decide_eq_false (fun q => text_ne hc (toB_inj q).symm)
    by_cases h1 : p1 = []
    ·rw [if_pos h1]
     have:=hj k (by omega)
     have fin:=fin (by rw [e1 h1];rfl)
     rw [fin] at this
     rw [e1 h1] at this ⊢
     exact this
    ·rw [if_neg h1,impl_split 32 (toB p1) (by rw [toB_size];omega),Option.bind_some,data_toB,← e2 h1]
     have:=impl_pts_read s (p0 :: p1 :: rest) (ptsOfT p1) hpl hpt _ _ 7000000 _ _ hj (ptsOfT p1).length 0 k [] (by omega) (by omega) (by simp) (by simp)
     rw [List.drop_zero] at this
     refine Eq.trans this ?_
     cases hp : (ptsOfT p1).all (fun x => (ptOf x).2.2) with
     | false => simp
     | true => rw [fin hp,if_pos rfl,Bool.true_and]
theorem FnExactReadDrawing (s : ByteArray) (hs : s.size ≤ 140737488351232) : ∃ k,laws_FnExactReadDrawing.f k s = some true:=by
 by_cases h : (s.size : Int) > 1048576
 ·refine ⟨0,?_⟩
  unfold laws_FnExactReadDrawing.f
  rw [if_pos h]
 ·have hl:=size_list s
  obtain ⟨B,hB⟩ : ∃ B : Nat,11000000 ≤ B:=⟨_,Nat.le_refl _⟩
  refine ⟨B + 2,?_⟩
  obtain ⟨⟨w,h',pts,fs,b⟩,hp,hf,hsh,h1,h2⟩:=read_eq s.data.toList (by omega)
  dsimp only at hp hf hsh
  rw [toB_data] at h1 h2
  obtain ⟨q,m1,m2,hq,b1,b2⟩:=mark_held_drawing w h' pts fs hp hf hsh
  have e3:=fun k (hk : 3000000 ≤ k) => eqDrawing_same w h' pts fs hp hf hsh k hk
  unfold laws_FnExactReadDrawing.f
  rw [if_neg h,h1 (B + 2) (by omega),h2 (B + 2) (by omega)]
  simp only [Option.bind_some]
  rw [e3 (B + 2) (by omega),Option.bind_some,if_pos rfl,bne_self_eq_false,laws_FnExactReadDrawing.j0,if_neg (by decide),b1 (B + 1) (by omega),Option.bind_some]
  dsimp only
  rw [b2 (B + 1) (by omega),Option.bind_some,if_neg (by omega),if_pos rfl,h2 (B + 1) (by omega),Option.bind_some]
  dsimp only
  rw [e3 (B + 1) (by omega),Option.bind_some,if_pos rfl,bne_self_eq_false,laws_FnExactReadDrawing.j1,if_neg (by decide),b2 B (by omega),Option.bind_some,if_neg (by omega),if_pos rfl]

end Go.Proofs.YtpemeboolahfkaaGreatDoor.Pure
