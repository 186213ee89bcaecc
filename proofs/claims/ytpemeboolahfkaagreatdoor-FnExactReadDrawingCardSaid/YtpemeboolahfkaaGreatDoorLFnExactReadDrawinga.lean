/- The plain law: what FnExactReadDrawing computes is true at every input. -/
import Derived.Test.YtpemeboolahfkaaGreatDoorQFnExactReadDrawingx
namespace Go.Proofs.YtpemeboolahfkaaGreatDoor.Pure
open Go.RowKit Go.Proofs.YtpemeboolahfkaaGreatDoor.PFnExactReadDrawing Go.Proofs.YtpemeboolahfkaaGreatDoorW.PrintWords Go.Proofs.YtpemeboolahfkaaGreatDoorW.PrintLast Go.Proofs.YtpemeboolahfkaaGreatDoorW.PrintMore
set_option linter.unusedVariables false
set_option linter.unusedSimpArgs false

theorem w64 {x : Int} (h1 : -9223372036854775808 ≤ x) (h2 : x ≤ 9223372036854775807) : wrap64 x = x:=by
 unfold wrap64
 omega
theorem wf64 {n : Int} (h : (Lit.int .i64 n).wf = true) : -9223372036854775808 ≤ n ∧ n ≤ 9223372036854775807:=by
 simp [Lit.wf,IntKind.min,IntKind.max,IntKind.bits,IntKind.signed] at h
 omega
theorem toList_nil_iff (s : ByteArray) : s.toList = ([] : List UInt8) ↔ s.size = 0:=by
 rw [ByteArray.toList_eq,List.eq_nil_iff_length_eq_zero,data_length]

theorem rd_nat (x : List Int) (j : Nat) : rd x (j : Int) = x.getD j 0:=by
 unfold rd
 rw [Int.toNat_natCast]
theorem w1' {i : Nat} (hi : i ≤ 4611686018427387904) : wrap64 ((i : Int) + 1) = ((i + 1 : Nat) : Int):=by
 rw [w64 (by omega) (by omega)]
 omega
theorem eqInt64S_loop (l : List Int) (h : l.length ≤ 1000000000) : ∀ (d k i : Nat),l.length - i ≤ d → d < k → laws_eqInt64S.l0 k l l i = some true
 | d,0,i,_,h2 => absurd h2 (by omega)
 | d,k + 1,i,h1,h2 => by
  simp only [laws_eqInt64S.l0]
  by_cases hi : i < l.length
  ·rw [if_pos (by omega),if_pos (by omega),if_pos (by omega),if_pos trivial,w1' (by omega)]
   exact eqInt64S_loop l h (d - 1) k (i + 1) (by omega) (by omega)
  ·rw [if_neg (by omega)]
theorem eqInt64S_self (l : List Int) (h : l.length ≤ 1000000000) (k : Nat) (hk : l.length < k) : laws_eqInt64S.f k l l = some true:=by
 unfold laws_eqInt64S.f
 rw [if_pos rfl]
 exact eqInt64S_loop l h l.length k 0 (by omega) hk

theorem rdN (p : List S36) (j : Nat) : rd_T36 p (j : Int) = p.getD j z36:=by
 unfold rd_T36
 rw [Int.toNat_natCast]
theorem tm1 {i n : Nat} (hn : n ≤ 4611686018427387904) (hi : i < n) : Int.tmod (wrap64 ((i : Int) + 1)) (n : Int) = (((i + 1) % n : Nat) : Int):=by
 rw [w64 (by omega) (by omega),Int.tmod_eq_emod_of_nonneg (by omega),Int.natCast_emod]
 rfl
theorem tm2 {i n : Nat} (hn : n ≤ 4611686018427387904) (hi : i < n) : Int.tmod (wrap64 ((i : Int) + 2)) (n : Int) = (((i + 2) % n : Nat) : Int):=by
 rw [w64 (by omega) (by omega),Int.tmod_eq_emod_of_nonneg (by omega),Int.natCast_emod]
 rfl
theorem w1 {i : Nat} (hi : i ≤ 4611686018427387904) : wrap64 ((i : Int) + 1) = ((i + 1 : Nat) : Int):=by
 rw [w64 (by omega) (by omega)]
 omega
theorem w2 {i : Nat} (hi : i ≤ 4611686018427387904) : wrap64 ((i : Int) + 2) = ((i + 2 : Nat) : Int):=by
 rw [w64 (by omega) (by omega)]
 omega

theorem eqPoint_self (x y : Int) : laws_eqPoint.f x y x y = some true:=by
 unfold laws_eqPoint.f
 rw [if_pos rfl,if_pos rfl]
theorem eqPointS_loop (l : List S36) (h : l.length ≤ 1000000000) : ∀ (d k i : Nat),l.length - i ≤ d → d < k → laws_eqPointS.l0 k l l i = some true
 | d,0,i,_,h2 => absurd h2 (by omega)
 | d,k + 1,i,h1,h2 => by
  simp only [laws_eqPointS.l0]
  by_cases hi : i < l.length
  ·rw [if_pos (by omega),if_pos (by omega),if_pos (by omega),eqPoint_self,Option.bind_some,if_pos rfl,w1 (by omega)]
   exact eqPointS_loop l h (d - 1) k (i + 1) (by omega) (by omega)
  ·rw [if_neg (by omega)]
theorem eqPointS_self (l : List S36) (h : l.length ≤ 1000000000) (k : Nat) (hk : l.length < k) : laws_eqPointS.f k l l = some true:=by
 unfold laws_eqPointS.f
 rw [if_pos rfl]
 exact eqPointS_loop l h l.length k 0 (by omega) hk

theorem rdF_nat (l : List S45) (j : Nat) : rd_T45 l (j : Int) = l.getD j z45:=by
 unfold rd_T45
 rw [Int.toNat_natCast]
theorem eqFaceS_loop (l : List S45) (h : l.length ≤ 1048576) (hs : ∀ j,j < l.length → (l.getD j z45).f1.length ≤ 1048576) (K : Nat) (hK : 1048576 < K) : ∀ (d k i : Nat),l.length - i ≤ d → d + K < k → laws_eqFaceS.l0 k l l i = some true
 | d,0,i,_,h2 => absurd h2 (by omega)
 | d,k + 1,i,h1,h2 => by
  simp only [laws_eqFaceS.l0,laws_eqFace.f]
  by_cases hi : i < l.length
  ·have:=hs i hi
   have hd : d ≠ 0:=by omega
   rw [if_pos (by omega),if_pos (by omega),if_pos (by omega),if_pos trivial,rdF_nat,eqInt64S_self _ (by omega) k (by omega),Option.bind_some,if_pos rfl,Option.bind_some,if_pos rfl,w1 (by omega)]
   exact eqFaceS_loop l h hs K hK (d - 1) k (i + 1) (by omega) (by omega)
  ·rw [if_neg (by omega)]

theorem spec_l01Small_eq (c : Int) : spec_l01Small.f c = some (decide (97 ≤ c ∧ c ≤ 122)):=by
 unfold spec_l01Small.f
 by_cases h : c ≥ 97
 ·rw [if_pos h]
  have : 97 ≤ c:=h
  simp [this]
 ·rw [if_neg h]
  have : ¬ 97 ≤ c:=h
  simp [this]
theorem spec_l01Digit_eq (c : Int) : spec_l01Digit.f c = some (decide (48 ≤ c ∧ c ≤ 57)):=by
 unfold spec_l01Digit.f
 by_cases h : c ≥ 48
 ·rw [if_pos h]
  have : 48 ≤ c:=h
  simp [this]
 ·rw [if_neg h]
  have : ¬ 48 ≤ c:=h
  simp [this]
theorem name_loops (s : ByteArray) : ∀ (k : Nat) (i : Int),spec_l01Name.l0 k s i = impl_IsName.l0 k s i
 | 0,_ => rfl
 | k + 1,i => by
  simp only [spec_l01Name.l0,impl_IsName.l0,spec_l01Small_eq,spec_l01Digit_eq,Option.bind_some,name_loops s k]
  by_cases h1 : i < (s.size : Int)
  ·rw [if_pos h1,if_pos h1]
   by_cases h2 : 0 ≤ i
   ·rw [if_pos h2,if_pos h2]
    generalize bt s i = c
    by_cases h3 : c < 97
    ·have a1 : ¬ (97 ≤ c ∧ c ≤ 122):=by omega
     by_cases h4 : c < 48
     ·have a2 : ¬ (48 ≤ c ∧ c ≤ 57):=by omega
      simp only [h3,h4,decide_eq_false a1,decide_eq_false a2,if_true,Bool.false_eq_true,if_false]
     ·by_cases h5 : c > 57
      ·have a2 : ¬ (48 ≤ c ∧ c ≤ 57):=by omega
       simp only [h3,h4,h5,decide_eq_false a1,decide_eq_false a2,if_true,Bool.false_eq_true,if_false]
      ·have a2 : (48 ≤ c ∧ c ≤ 57):=by omega
       simp only [h3,h4,h5,decide_eq_false a1,decide_eq_true a2,if_true,Bool.false_eq_true,if_false]
    ·by_cases h6 : c > 122
     ·have a1 : ¬ (97 ≤ c ∧ c ≤ 122):=by omega
      have a2 : ¬ (48 ≤ c ∧ c ≤ 57):=by omega
      have a3 : ¬ c < 48:=by omega
      have a4 : c > 57:=by omega
      simp only [h3,h6,a3,a4,decide_eq_false a1,decide_eq_false a2,if_true,Bool.false_eq_true,if_false]
     ·have a1 : (97 ≤ c ∧ c ≤ 122):=by omega
      simp only [h3,h6,decide_eq_true a1,if_true,Bool.false_eq_true,if_false]
   ·rw [if_neg h2,if_neg h2]
  ·rw [if_neg h1,if_neg h1]
theorem name_j (s : ByteArray) (b : Bool) : ∀ k : Nat,spec_l01Name.j0 k s b = impl_IsName.j0 k s b
 | 0 => rfl
 | k + 1 => by simp only [spec_l01Name.j0,impl_IsName.j0,name_loops]
theorem name_same (s : ByteArray) (k : Nat) : spec_l01Name.f k s = impl_IsName.f k s:=by
 unfold spec_l01Name.f impl_IsName.f
 simp only [name_j,spec_l01Small_eq,Option.bind_some,toList_nil_iff]
 by_cases h0 : s.size = 0
 ·have h1 : (s.size : Int) < 1:=by omega
  simp only [h0,h1,if_true] <;> (cases impl_IsName.j0 k s true <;> rfl)
 ·have h1 : ¬ (s.size : Int) < 1:=by omega
  simp only [h0,h1,if_false]
  by_cases h2 : (s.size : Int) > 10
  ·simp only [h2,if_true] <;> (cases impl_IsName.j0 k s true <;> rfl)
  ·have h3 : 0 < (s.size : Int):=by omega
   simp only [h2,h3,if_true,if_false]
   by_cases h4 : bt s 0 < 97
   ·have : decide (97 ≤ bt s 0 ∧ bt s 0 ≤ 122) = false:=by simp;omega
    simp only [h4,this,if_true,Bool.not_false] <;> (cases impl_IsName.j0 k s true <;> rfl)
   ·have : (!decide (97 ≤ bt s 0 ∧ bt s 0 ≤ 122)) = decide (bt s 0 > 122):=by
     by_cases h3 : bt s 0 > 122
     ·simp [h3];try omega
     ·simp [h3];omega
    simp only [h4,this,if_false] <;> (cases impl_IsName.j0 k s (decide (bt s 0 > 122)) <;> rfl)
theorem name_ends (s : ByteArray) (hs : s.size ≤ 140737488351232) : ∀ (d k : Nat) (i : Int),0 ≤ i → (s.size : Int) - i ≤ d → d < k → ∃ b,impl_IsName.l0 k s i = some b
 | d,0,i,_,_,h => absurd h (by omega)
 | d,k + 1,i,h0,h1,h => by
  simp only [impl_IsName.l0]
  by_cases hi : i < (s.size : Int)
  ·have e : wrap64 (i + 1) = i + 1:=w64 (by omega) (by omega)
   obtain ⟨b,hb⟩:=name_ends s hs (d - 1) k (i + 1) (by omega) (by omega) (by omega)
   rw [if_pos hi,if_pos h0,e,hb]
   repeat' split
   all_goals exact ⟨_,rfl⟩
  ·rw [if_neg hi]
   exact ⟨_,rfl⟩
theorem name_total (s : ByteArray) (hs : s.size ≤ 140737488351232) : ∃ b,∀ k,s.size + 2 ≤ k → impl_IsName.f k s = some b:=by
 have j1 : ∀ k,impl_IsName.j0 (k + 1) s true = some false:=fun k => by simp only [impl_IsName.j0,if_true]
 obtain ⟨b,hb⟩:=name_ends s hs s.size (s.size + 1) 0 (by omega) (by omega) (by omega)
 have mono:=(fun k => (impl_IsName.mono_l k).2 s 0)
 have hb' : ∀ k,s.size + 1 ≤ k → impl_IsName.l0 k s 0 = some b:=fun k hk => at_rounds mono hk hb
 have j0 : ∀ k,s.size + 1 ≤ k → impl_IsName.j0 (k + 1) s false = some b:=fun k hk => by simp only [impl_IsName.j0,Bool.false_eq_true,if_false,hb' k hk]
 by_cases h1 : (s.size : Int) < 1
 ·refine ⟨false,fun k hk => ?_⟩
  obtain ⟨k,rfl⟩ : ∃ m,k = m + 1:=⟨k - 1,by omega⟩
  unfold impl_IsName.f
  rw [if_pos h1,j1]
 ·by_cases h2 : (s.size : Int) > 10
  ·refine ⟨false,fun k hk => ?_⟩
   obtain ⟨k,rfl⟩ : ∃ m,k = m + 1:=⟨k - 1,by omega⟩
   unfold impl_IsName.f
   rw [if_neg h1,if_pos h2,j1]
  ·by_cases h3 : bt s 0 < 97
   ·refine ⟨false,fun k hk => ?_⟩
    obtain ⟨k,rfl⟩ : ∃ m,k = m + 1:=⟨k - 1,by omega⟩
    unfold impl_IsName.f
    rw [if_neg h1,if_neg h2,if_pos (by omega),if_pos h3,j1]
   ·by_cases h4 : bt s 0 > 122
    ·refine ⟨false,fun k hk => ?_⟩
     obtain ⟨k,rfl⟩ : ∃ m,k = m + 1:=⟨k - 1,by omega⟩
     unfold impl_IsName.f
     rw [if_neg h1,if_neg h2,if_pos (by omega),if_neg h3,decide_eq_true h4,j1]
    ·refine ⟨b,fun k hk => ?_⟩
     obtain ⟨k,rfl⟩ : ∃ m,k = m + 1:=⟨k - 1,by omega⟩
     unfold impl_IsName.f
     rw [if_neg h1,if_neg h2,if_pos (by omega),if_neg h3,decide_eq_false h4,j0 k (by omega)]

theorem impl_within_eq (n lo hi : Int) : impl_within.f n lo hi = some (decide (lo ≤ n ∧ n ≤ hi)):=by
 unfold impl_within.f
 by_cases h : n ≥ lo
 ·rw [if_pos h]
  have : lo ≤ n:=h
  simp [this]
 ·rw [if_neg h]
  have : ¬ lo ≤ n:=h
  simp [this]

theorem spec_l00In_eq (n lo hi : Int) : spec_l00In.f n lo hi = some (decide (lo ≤ n ∧ n ≤ hi)):=by
 unfold spec_l00In.f
 by_cases h : n ≥ lo
 ·rw [if_pos h]
  have : lo ≤ n:=h
  simp [this]
 ·rw [if_neg h]
  have : ¬ lo ≤ n:=h
  simp [this]

/-- A valid point. -/
def okP (x y : Int) : Bool:=decide (0 ≤ x ∧ x ≤ 20000) && decide (0 ≤ y ∧ y ≤ 20000)
theorem okP_iff (x y : Int) : okP x y = true ↔ (0 ≤ x ∧ x ≤ 20000) ∧ (0 ≤ y ∧ y ≤ 20000):=by
 unfold okP
 rw [Bool.and_eq_true,decide_eq_true_eq,decide_eq_true_eq]
theorem ok_bind (x y : Int) (f : Bool → Option Bool) (hf : ∀ b,f b = some b) : (if decide (0 ≤ x ∧ x ≤ 20000) = true then (some (decide (0 ≤ y ∧ y ≤ 20000))).bind f else some false) = some (okP x y):=by
 unfold okP
 by_cases h : 0 ≤ x ∧ x ≤ 20000
 ·rw [decide_eq_true h,if_pos rfl]
  simp [hf]
 ·rw [decide_eq_false h,if_neg (by decide)]
  simp

/-- The i-th term of twice the area. -/
def crossT (p : List S36) (i : Nat) : Int:=(p.getD i z36).f0 * (p.getD ((i + 1) % p.length) z36).f1 - (p.getD i z36).f1 * (p.getD ((i + 1) % p.length) z36).f0
def areaTo (p : List S36) : Nat → Int
 | 0 => 0
 | i + 1 => areaTo p i + crossT p i
def InR (p : List S36) : Prop:=∀ i,0 ≤ (p.getD i z36).f0 ∧ (p.getD i z36).f0 ≤ 20000 ∧ 0 ≤ (p.getD i z36).f1 ∧ (p.getD i z36).f1 ≤ 20000
theorem inR_of_all {p : List S36} (h : (p.all fun s => okP s.f0 s.f1) = true) : InR p:=by
 intro i
 by_cases hi : i < p.length
 ·rw [List.getD_eq_getElem?_getD,List.getElem?_eq_getElem hi]
  have:=List.all_eq_true.1 h _ (List.getElem_mem hi)
  obtain ⟨h1,h2⟩:=(okP_iff _ _).1 this
  exact ⟨h1.1,h1.2,h2.1,h2.2⟩
 ·rw [List.getD_eq_getElem?_getD,List.getElem?_eq_none (by omega)]
  exact ⟨Int.le_refl _,by decide,Int.le_refl _,by decide⟩
theorem mul_in {a b : Int} (ha : 0 ≤ a ∧ a ≤ 20000) (hb : 0 ≤ b ∧ b ≤ 20000) : 0 ≤ a * b ∧ a * b ≤ 400000000:=by
 refine ⟨Int.mul_nonneg ha.1 hb.1,?_⟩
 have:=Int.mul_le_mul ha.2 hb.2 hb.1 (by omega)
 omega
theorem crossT_in {p : List S36} (h : InR p) (i : Nat) : -400000000 ≤ crossT p i ∧ crossT p i ≤ 400000000:=by
 unfold crossT
 obtain ⟨a1,a2,a3,a4⟩:=h i
 obtain ⟨b1,b2,b3,b4⟩:=h ((i + 1) % p.length)
 have:=mul_in ⟨a1,a2⟩ ⟨b3,b4⟩
 have:=mul_in ⟨a3,a4⟩ ⟨b1,b2⟩
 omega
theorem areaTo_in {p : List S36} (h : InR p) : ∀ i : Nat,-(400000000 * i) ≤ areaTo p i ∧ areaTo p i ≤ 400000000 * i
 | 0 => by simp [areaTo]
 | i + 1 => by
  have:=areaTo_in h i
  have:=crossT_in h i
  unfold areaTo
  omega
theorem crossT_w {p : List S36} (h : InR p) (i : Nat) : wrap64 (wrap64 ((p.getD i z36).f0 * (p.getD ((i + 1) % p.length) z36).f1) - wrap64 ((p.getD i z36).f1 * (p.getD ((i + 1) % p.length) z36).f0)) = crossT p i:=by
 obtain ⟨a1,a2,a3,a4⟩:=h i
 obtain ⟨b1,b2,b3,b4⟩:=h ((i + 1) % p.length)
 have m1:=mul_in ⟨a1,a2⟩ ⟨b3,b4⟩
 have m2:=mul_in ⟨a3,a4⟩ ⟨b1,b2⟩
 unfold crossT
 rw [w64 (x:=_ * _) (by omega) (by omega),w64 (x:=(p.getD i z36).f1 * _) (by omega) (by omega),w64 (by omega) (by omega)]

theorem sides_same (a0 a1 b0 b1 c0 c1 : Int) : spec_l02Side.f a0 a1 b0 b1 c0 c1 = impl_side.f a0 a1 b0 b1 c0 c1:=by
 unfold spec_l02Side.f spec_l02Cross.f impl_side.f
 rfl
/-- The side, as the program reckons it. -/
def sideW (a0 a1 b0 b1 c0 c1 : Int) : Int:=if (wrap64 ((wrap64 ((wrap64 (b0 - a0)) * (wrap64 (c1 - a1)))) - (wrap64 ((wrap64 (b1 - a1)) * (wrap64 (c0 - a0)))))) > 0 then 1 else (if (wrap64 ((wrap64 ((wrap64 (b0 - a0)) * (wrap64 (c1 - a1)))) - (wrap64 ((wrap64 (b1 - a1)) * (wrap64 (c0 - a0)))))) < 0 then -1 else 0)
theorem impl_side_eq (a0 a1 b0 b1 c0 c1 : Int) : impl_side.f a0 a1 b0 b1 c0 c1 = some (sideW a0 a1 b0 b1 c0 c1):=by
 unfold impl_side.f sideW
 split
 ·rfl
 ·split <;> rfl
theorem spec_side_eq (a0 a1 b0 b1 c0 c1 : Int) : spec_l02Side.f a0 a1 b0 b1 c0 c1 = some (sideW a0 a1 b0 b1 c0 c1):=by
 rw [sides_same,impl_side_eq]
theorem sideW_three (a0 a1 b0 b1 c0 c1 : Int) : sideW a0 a1 b0 b1 c0 c1 = 1 ∨ sideW a0 a1 b0 b1 c0 c1 = -1 ∨ sideW a0 a1 b0 b1 c0 c1 = 0:=by
 unfold sideW
 split
 ·exact .inl rfl
 ·split
  ·exact .inr (.inl rfl)
  ·exact .inr (.inr rfl)

def crossW (a0 a1 b0 b1 c0 c1 d0 d1 : Int) : Bool:=decide (wrap64 (sideW a0 a1 b0 b1 c0 c1 * sideW a0 a1 b0 b1 d0 d1) < 0) && decide (wrap64 (sideW c0 c1 d0 d1 a0 a1 * sideW c0 c1 d0 d1 b0 b1) < 0)
theorem impl_crossing_eq (a0 a1 b0 b1 c0 c1 d0 d1 : Int) : impl_crossing.f a0 a1 b0 b1 c0 c1 d0 d1 = some (crossW a0 a1 b0 b1 c0 c1 d0 d1):=by
 unfold impl_crossing.f crossW
 simp only [impl_side_eq,Option.bind_some]
 by_cases h : wrap64 (sideW a0 a1 b0 b1 c0 c1 * sideW a0 a1 b0 b1 d0 d1) < 0
 ·rw [if_pos h,decide_eq_true h,Bool.true_and]
 ·rw [if_neg h,decide_eq_false h,Bool.false_and]
theorem spec_crosses_eq (a0 a1 b0 b1 c0 c1 d0 d1 : Int) : spec_l02Crosses.f a0 a1 b0 b1 c0 c1 d0 d1 = some (crossW a0 a1 b0 b1 c0 c1 d0 d1):=by
 rw [← impl_crossing_eq]
 unfold spec_l02Crosses.f impl_crossing.f
 simp only [sides_same]

theorem spec_min_eq (a b : Int) : spec_l00Min.f a b = some (mn a b):=by
 unfold spec_l00Min.f mn
 split <;> split <;> first | rfl | (congr 1;omega)
theorem spec_max_eq (a b : Int) : spec_l00Max.f a b = some (mx a b):=by
 unfold spec_l00Max.f mx
 split <;> split <;> first | rfl | (congr 1;omega)
def onW (a0 a1 b0 b1 c0 c1 : Int) : Bool:=decide (sideW a0 a1 b0 b1 c0 c1 = 0) && (decide (mn a0 b0 ≤ c0 ∧ c0 ≤ mx a0 b0) && decide (mn a1 b1 ≤ c1 ∧ c1 ≤ mx a1 b1))
theorem impl_on_eq (a0 a1 b0 b1 c0 c1 : Int) : impl_on.f a0 a1 b0 b1 c0 c1 = some (onW a0 a1 b0 b1 c0 c1):=by
 unfold impl_on.f onW
 simp only [impl_side_eq,impl_within_eq,Option.bind_some]
 by_cases h : sideW a0 a1 b0 b1 c0 c1 = 0
 ·rw [if_pos h,decide_eq_true h,Bool.true_and]
  cases decide (mn a0 b0 ≤ c0 ∧ c0 ≤ mx a0 b0) <;> simp
 ·rw [if_neg h,decide_eq_false h,Bool.false_and]
theorem spec_on_eq (a0 a1 b0 b1 c0 c1 : Int) : spec_l02On.f a0 a1 b0 b1 c0 c1 = some (onW a0 a1 b0 b1 c0 c1):=by
 unfold spec_l02On.f onW
 simp only [spec_side_eq,spec_l00In_eq,spec_min_eq,spec_max_eq,Option.bind_some]
 by_cases h : sideW a0 a1 b0 b1 c0 c1 = 0
 ·rw [if_pos h,decide_eq_true h,Bool.true_and]
  cases decide (mn a0 b0 ≤ c0 ∧ c0 ≤ mx a0 b0) <;> simp
 ·rw [if_neg h,decide_eq_false h,Bool.false_and]

def touchW (a0 a1 b0 b1 c0 c1 d0 d1 : Int) : Bool:=crossW a0 a1 b0 b1 c0 c1 d0 d1 || (onW a0 a1 b0 b1 c0 c1 || (onW a0 a1 b0 b1 d0 d1 || (onW c0 c1 d0 d1 a0 a1 || onW c0 c1 d0 d1 b0 b1)))
theorem touch_fold (x y z u v : Bool) : (some x).bind (fun t => if t = true then some true else (some y).bind fun t => if t = true then some true else (some z).bind fun t => if t = true then some true else (some u).bind fun t => if t = true then some true else (some v).bind fun t => some t) = some (x || (y || (z || (u || v)))):=by
 cases x <;> cases y <;> cases z <;> cases u <;> cases v <;> rfl

def same2 (a0 a1 b0 b1 : Int) : Bool:=a0 == b0 && (a1 == b1)
/-- Where a corner is bad. -/
def badAt (p : List S36) (i : Nat) : Bool :=
 let a:=p.getD i z36;let b:=p.getD ((i + 1) % p.length) z36;let c:=p.getD ((i + 2) % p.length) z36
 same2 a.f0 a.f1 b.f0 b.f1 || (onW a.f0 a.f1 b.f0 b.f1 c.f0 c.f1 || onW b.f0 b.f1 c.f0 c.f1 a.f0 a.f1)
/-- Two edges touch. -/
def meets (p : List S36) (i j : Nat) : Bool :=
 let a:=p.getD i z36;let b:=p.getD ((i + 1) % p.length) z36;let c:=p.getD j z36;let d:=p.getD ((j + 1) % p.length) z36
 touchW a.f0 a.f1 b.f0 b.f1 c.f0 c.f1 d.f0 d.f1
def GoodAt (p : List S36) (i : Nat) : Prop:=badAt p i = false ∧ ∀ j,i + 2 ≤ j → j < p.length → (j + 1) % p.length ≠ i → meets p i j = false
/-- What a valid polygon is. -/
def Valid (p : List S36) : Prop:=3 ≤ p.length ∧ p.length ≤ 24 ∧ (p.all fun s => okP s.f0 s.f1) = true ∧ (∀ i,i < p.length → GoodAt p i) ∧ 0 < areaTo p p.length

theorem impl_touching_eq (a0 a1 b0 b1 c0 c1 d0 d1 : Int) : impl_touching.f a0 a1 b0 b1 c0 c1 d0 d1 = some (touchW a0 a1 b0 b1 c0 c1 d0 d1):=by
 unfold impl_touching.f touchW
 simp only [impl_crossing_eq,impl_on_eq]
 exact touch_fold _ _ _ _ _

theorem impl_ValidPoint_eq (x y : Int) : impl_ValidPoint.f x y = some (okP x y):=by
 unfold impl_ValidPoint.f
 simp only [impl_within_eq]
 rw [Option.bind_some]
 exact ok_bind x y _ (fun _ => rfl)

theorem impl_validPoints_loop (l : List S36) (hl : l.length ≤ 9223372036854775806) : ∀ (d k : Nat) (i : Nat),l.length - i ≤ d → d < k → impl_validPoints.l0 k l (l.length : Int) i = some ((l.drop i).all fun s => okP s.f0 s.f1)
 | d,0,i,h1,h2 => absurd h2 (by omega)
 | d,k + 1,i,h1,h2 => by
  simp only [impl_validPoints.l0,impl_ValidPoint_eq,Option.bind_some]
  by_cases h : i < l.length
  ·rw [if_pos (by omega),if_pos (by omega),if_pos (by omega),w64 (by omega) (by omega),show ((i : Int) + 1) = ((i + 1 : Nat) : Int) by omega,impl_validPoints_loop l hl (d - 1) k (i + 1) (by omega) (by omega),List.drop_eq_getElem_cons h,List.all_cons]
   have e : rd_T36 l (i : Int) = l[i]:=by
    unfold rd_T36
    rw [Int.toNat_natCast,List.getD_eq_getElem?_getD,List.getElem?_eq_getElem h]
    rfl
   rw [e]
   cases okP (l[i]).f0 (l[i]).f1 <;> simp
  ·rw [if_neg (by omega),List.drop_eq_nil_of_le (by omega)]
   rfl
theorem impl_validPoints_eq (l : List S36) (hl : l.length ≤ 9223372036854775806) (k : Nat) (hk : l.length < k) : impl_validPoints.f k l = some (l.all fun s => okP s.f0 s.f1):=by
 unfold impl_validPoints.f
 exact impl_validPoints_loop l hl l.length k 0 (by omega) hk

theorem impl_doubled_loop {p : List S36} (h : InR p) (hn : p.length ≤ 1000000000) : ∀ (d k i : Nat),i ≤ p.length → p.length - i ≤ d → d < k → impl_doubled.l0 k p (areaTo p i) p (p.length : Int) i = some (areaTo p p.length)
 | d,0,i,_,_,h3 => absurd h3 (by omega)
 | d,k + 1,i,h1,h2,h3 => by
  simp only [impl_doubled.l0]
  by_cases hi : i < p.length
  ·have hm:=Nat.mod_lt (i + 1) (show 0 < p.length by omega)
   rw [tm1 (by omega) hi,if_pos (by omega),if_pos (by omega),if_pos (by omega),if_neg (by omega),if_pos (by omega),if_pos (by omega),rdN,rdN,crossT_w h,w1 (by omega)]
   have b1:=areaTo_in h i
   have b2:=crossT_in h i
   rw [w64 (x:=areaTo p i + crossT p i) (by omega) (by omega)]
   exact impl_doubled_loop h hn (d - 1) k (i + 1) (by omega) (by omega) (by omega)
  ·rw [if_neg (by omega),show i = p.length by omega]
theorem impl_doubled_eq {p : List S36} (h : InR p) (hn : p.length ≤ 1000000000) (k : Nat) (hk : p.length < k) : impl_doubled.f k p = some (areaTo p p.length):=by
 unfold impl_doubled.f
 exact impl_doubled_loop h hn p.length k 0 (by omega) (by omega) hk

theorem impl_vp_inner {p : List S36} (hn : p.length ≤ 24) (i : Nat) (hi : i < p.length) (K : Nat) (b : Bool) (hb : ∀ k,K ≤ k → impl_ValidPolygon.l0 k p (p.length : Int) (p.length : Int) ((i + 1 : Nat) : Int) = some b) :
  ∀ (d j : Nat),p.length - j ≤ d → ∃ r,(∀ k,K + d + 1 ≤ k → impl_ValidPolygon.l1 k p (p.length : Int) i j (p.length : Int) i (p.getD i z36).f0 (p.getD i z36).f1 (p.getD ((i + 1) % p.length) z36).f0 (p.getD ((i + 1) % p.length) z36).f1 = some r) ∧
   (r = true ↔ (∀ m,j ≤ m → m < p.length → (m + 1) % p.length ≠ i → meets p i m = false) ∧ b = true):=by
 intro d
 induction d with
 | zero =>
  intro j hj
  refine ⟨b,fun k hk => ?_,⟨fun h => ⟨fun m h1 h2 => absurd h2 (by omega),h⟩,fun h => h.2⟩⟩
  obtain ⟨k,rfl⟩ : ∃ m,k = m + 1:=⟨k - 1,by omega⟩
  simp only [impl_ValidPolygon.l1]
  rw [if_neg (by omega),w1 (by omega)]
  exact hb k (by omega)
 | succ d ih =>
  intro j hj
  by_cases hlt : j < p.length
  ·have hm:=Nat.mod_lt (j + 1) (show 0 < p.length by omega)
   obtain ⟨r,h1,h2⟩:=ih (j + 1) (by omega)
   by_cases hc : (j + 1) % p.length = i
   ·refine ⟨r,fun k hk => ?_,h2.trans ⟨fun h => ⟨fun m a1 a2 a3 => ?_,h.2⟩,fun h => ⟨fun m a1 a2 a3 => h.1 m (by omega) a2 a3,h.2⟩⟩⟩
    ·obtain ⟨k,rfl⟩ : ∃ m,k = m + 1:=⟨k - 1,by omega⟩
     simp only [impl_ValidPolygon.l1]
     rw [if_pos (by omega),if_neg (by omega),tm1 (by omega) hlt,if_pos (by omega),w1 (by omega)]
     exact h1 k (by omega)
    ·by_cases e : m = j
     ·exact absurd (by rw [e];exact hc) a3
     ·exact h.1 m (by omega) a2 a3
   ·by_cases ht : meets p i j = true
    ·refine ⟨false,fun k hk => ?_,⟨fun h => (by cases h),fun h => ?_⟩⟩
     ·obtain ⟨k,rfl⟩ : ∃ m,k = m + 1:=⟨k - 1,by omega⟩
      simp only [impl_ValidPolygon.l1]
      rw [if_pos (by omega),if_neg (by omega),tm1 (by omega) hlt,if_neg (by omega),if_pos (by omega),if_pos (by omega),if_pos (by omega),if_pos (by omega),rdN,rdN,impl_touching_eq]
      have e : touchW (p.getD i z36).f0 (p.getD i z36).f1 (p.getD ((i + 1) % p.length) z36).f0 (p.getD ((i + 1) % p.length) z36).f1 (p.getD j z36).f0 (p.getD j z36).f1 (p.getD ((j + 1) % p.length) z36).f0 (p.getD ((j + 1) % p.length) z36).f1 = true:=ht
      rw [e]
      rfl
     ·rw [h.1 j (Nat.le_refl _) hlt hc] at ht
      cases ht
    ·have ht:=Bool.eq_false_iff.2 ht
     refine ⟨r,fun k hk => ?_,h2.trans ⟨fun h => ⟨fun m a1 a2 a3 => ?_,h.2⟩,fun h => ⟨fun m a1 a2 a3 => h.1 m (by omega) a2 a3,h.2⟩⟩⟩
     ·obtain ⟨k,rfl⟩ : ∃ m,k = m + 1:=⟨k - 1,by omega⟩
      simp only [impl_ValidPolygon.l1]
      rw [if_pos (by omega),if_neg (by omega),tm1 (by omega) hlt,if_neg (by omega),if_pos (by omega),if_pos (by omega),if_pos (by omega),if_pos (by omega),rdN,rdN,impl_touching_eq]
      have e : touchW (p.getD i z36).f0 (p.getD i z36).f1 (p.getD ((i + 1) % p.length) z36).f0 (p.getD ((i + 1) % p.length) z36).f1 (p.getD j z36).f0 (p.getD j z36).f1 (p.getD ((j + 1) % p.length) z36).f0 (p.getD ((j + 1) % p.length) z36).f1 = false:=ht
      rw [e,w1 (by omega)]
      exact h1 k (by omega)
     ·by_cases e : m = j
      ·rw [e];exact ht
      ·exact h.1 m (by omega) a2 a3
  ·refine ⟨b,fun k hk => ?_,⟨fun h => ⟨fun m h1 h2 => absurd h2 (by omega),h⟩,fun h => h.2⟩⟩
   obtain ⟨k,rfl⟩ : ∃ m,k = m + 1:=⟨k - 1,by omega⟩
   simp only [impl_ValidPolygon.l1]
   rw [if_neg (by omega),w1 (by omega)]
   exact hb k (by omega)
theorem impl_vp_outer {p : List S36} (hr : InR p) (h3 : 3 ≤ p.length) (hn : p.length ≤ 24) :
  ∀ (d i : Nat),i ≤ p.length → p.length - i ≤ d → ∃ r,(∀ k,30 * d + 26 ≤ k → impl_ValidPolygon.l0 k p (p.length : Int) (p.length : Int) i = some r) ∧ (r = true ↔ (∀ m,i ≤ m → m < p.length → GoodAt p m) ∧ 0 < areaTo p p.length):=by
 intro d
 induction d with
 | zero =>
  intro i hi hd
  refine ⟨decide (areaTo p p.length > 0),fun k hk => ?_,?_⟩
  ·obtain ⟨k,rfl⟩ : ∃ m,k = m + 1:=⟨k - 1,by omega⟩
   simp only [impl_ValidPolygon.l0]
   rw [if_neg (by omega),impl_doubled_eq hr (by omega) k (by omega)]
   rfl
  ·rw [decide_eq_true_eq]
   exact ⟨fun h => ⟨fun m a b => absurd b (by omega),h⟩,fun h => h.2⟩
 | succ d ih =>
  intro i hi hd
  by_cases hlt : i < p.length
  ·obtain ⟨b,hb,hb2⟩:=ih (i + 1) (by omega) (by omega)
   obtain ⟨r,h1,h2⟩:=impl_vp_inner hn i hlt (30 * d + 26) b hb 24 (i + 2) (by omega)
   have m1:=Nat.mod_lt (i + 1) (show 0 < p.length by omega)
   have m2:=Nat.mod_lt (i + 2) (show 0 < p.length by omega)
   have step : ∀ k,impl_ValidPolygon.l0 (k + 2) p (p.length : Int) (p.length : Int) i = if badAt p i = true then some false else impl_ValidPolygon.l1 k p (p.length : Int) i ((i + 2 : Nat) : Int) (p.length : Int) i (p.getD i z36).f0 (p.getD i z36).f1 (p.getD ((i + 1) % p.length) z36).f0 (p.getD ((i + 1) % p.length) z36).f1:=by
    intro k
    simp only [impl_ValidPolygon.l0]
    rw [if_pos (by omega),if_pos (by omega),if_pos (by omega),if_neg (by omega),tm1 (by omega) hlt,tm2 (by omega) hlt,if_pos (by omega),if_pos (by omega),if_pos (by omega),if_pos (by omega),rdN,rdN,rdN]
    simp only [impl_on_eq,impl_ValidPolygon.j2,w2 (show i ≤ 4611686018427387904 by omega),Option.bind_some]
    rw [show badAt p i = (((p.getD i z36).f0 == (p.getD ((i + 1) % p.length) z36).f0 && ((p.getD i z36).f1 == (p.getD ((i + 1) % p.length) z36).f1)) || (onW (p.getD i z36).f0 (p.getD i z36).f1 (p.getD ((i + 1) % p.length) z36).f0 (p.getD ((i + 1) % p.length) z36).f1 (p.getD ((i + 2) % p.length) z36).f0 (p.getD ((i + 2) % p.length) z36).f1 || onW (p.getD ((i + 1) % p.length) z36).f0 (p.getD ((i + 1) % p.length) z36).f1 (p.getD ((i + 2) % p.length) z36).f0 (p.getD ((i + 2) % p.length) z36).f1 (p.getD i z36).f0 (p.getD i z36).f1)) from rfl]
    generalize ((p.getD i z36).f0 == (p.getD ((i + 1) % p.length) z36).f0 && ((p.getD i z36).f1 == (p.getD ((i + 1) % p.length) z36).f1)) = s1
    generalize onW (p.getD i z36).f0 (p.getD i z36).f1 (p.getD ((i + 1) % p.length) z36).f0 (p.getD ((i + 1) % p.length) z36).f1 (p.getD ((i + 2) % p.length) z36).f0 (p.getD ((i + 2) % p.length) z36).f1 = s2
    generalize onW (p.getD ((i + 1) % p.length) z36).f0 (p.getD ((i + 1) % p.length) z36).f1 (p.getD ((i + 2) % p.length) z36).f0 (p.getD ((i + 2) % p.length) z36).f1 (p.getD i z36).f0 (p.getD i z36).f1 = s3
    cases s1 <;> cases s2 <;> cases s3 <;> simp
   by_cases hbad : badAt p i = true
   ·refine ⟨false,fun k hk => ?_,⟨fun h => (by cases h),fun h => ?_⟩⟩
    ·obtain ⟨k,rfl⟩ : ∃ m,k = m + 2:=⟨k - 2,by omega⟩
     rw [step,if_pos hbad]
    ·have:=(h.1 i (Nat.le_refl _) hlt).1
     rw [this] at hbad
     cases hbad
   ·refine ⟨r,fun k hk => ?_,h2.trans ?_⟩
    ·obtain ⟨k,rfl⟩ : ∃ m,k = m + 2:=⟨k - 2,by omega⟩
     rw [step,if_neg hbad]
     exact h1 k (by omega)
    ·rw [hb2]
     refine ⟨fun h => ⟨fun m a b => ?_,h.2.2⟩,fun h => ⟨(h.1 i (Nat.le_refl _) hlt).2,fun m a b => h.1 m (by omega) b,h.2⟩⟩
     by_cases e : m = i
     ·rw [e];exact ⟨Bool.eq_false_iff.2 hbad,h.1⟩
     ·exact h.2.1 m (by omega) b
  ·refine ⟨decide (areaTo p p.length > 0),fun k hk => ?_,?_⟩
   ·obtain ⟨k,rfl⟩ : ∃ m,k = m + 1:=⟨k - 1,by omega⟩
    simp only [impl_ValidPolygon.l0]
    rw [if_neg (by omega),impl_doubled_eq hr (by omega) k (by omega)]
    rfl
   ·rw [decide_eq_true_eq]
    exact ⟨fun h => ⟨fun m a b => absurd b (by omega),h⟩,fun h => h.2⟩
/-- ValidPolygon tells of every list of points whether it is valid, with 1000 rounds and more (and more than it has points). -/
theorem impl_valid_eq (p : List S36) (hl : p.length ≤ 1048576) : ∃ b,(∀ k,1000 ≤ k → impl_ValidPolygon.f k p = some b) ∧ (b = true ↔ Valid p):=by
 have j1 : ∀ k,impl_ValidPolygon.j0 (k + 1) p (p.length : Int) true = some false:=fun k => by simp only [impl_ValidPolygon.j0,if_true]
 by_cases h1 : p.length < 3
 ·refine ⟨false,fun k hk => ?_,⟨fun h => (by cases h),fun h => absurd h.1 (by omega)⟩⟩
  obtain ⟨k,rfl⟩ : ∃ m,k = m + 1:=⟨k - 1,by omega⟩
  unfold impl_ValidPolygon.f
  rw [if_pos (by omega),j1]
 ·by_cases h2 : p.length > 24
  ·refine ⟨false,fun k hk => ?_,⟨fun h => (by cases h),fun h => absurd h.2.1 (by omega)⟩⟩
   obtain ⟨k,rfl⟩ : ∃ m,k = m + 1:=⟨k - 1,by omega⟩
   unfold impl_ValidPolygon.f
   rw [if_neg (by omega),if_pos (by omega),j1]
  ·cases hall : (p.all fun s => okP s.f0 s.f1) with
   | false =>
    refine ⟨false,fun k hk => ?_,⟨fun h => (by cases h),fun h => ?_⟩⟩
    ·obtain ⟨k,rfl⟩ : ∃ m,k = m + 1:=⟨k - 1,by omega⟩
     unfold impl_ValidPolygon.f
     rw [if_neg (by omega),if_neg (by omega),impl_validPoints_eq p (by omega) _ (by omega),hall]
     exact j1 k
    ·have:=h.2.2.1
     rw [hall] at this
     cases this
   | true =>
    have hr:=inR_of_all hall
    obtain ⟨r,h3,h4⟩:=impl_vp_outer hr (by omega) (by omega) 24 0 (by omega) (by omega)
    refine ⟨r,fun k hk => ?_,h4.trans ⟨fun h => ⟨by omega,by omega,hall,fun i hi => h.1 i (by omega) hi,h.2⟩,fun h => ⟨fun m _ hm => h.2.2.2.1 m hm,h.2.2.2.2⟩⟩⟩
    obtain ⟨k,rfl⟩ : ∃ m,k = m + 1:=⟨k - 1,by omega⟩
    unfold impl_ValidPolygon.f
    rw [if_neg (by omega),if_neg (by omega),impl_validPoints_eq p (by omega) _ (by omega),hall,Option.bind_some]
    simp only [impl_ValidPolygon.j0,Bool.not_true,Bool.false_eq_true,if_false]
    exact h3 k (by omega)
-- cut here

end Go.Proofs.YtpemeboolahfkaaGreatDoor.Pure
