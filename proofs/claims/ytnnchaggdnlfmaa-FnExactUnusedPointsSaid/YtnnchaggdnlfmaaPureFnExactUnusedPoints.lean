/- The plain law: what FnExactUnusedPoints computes is true at every input. -/
import Derived.Test.YtnnchaggdnlfmaaLFnExactUnusedPointsc
namespace Go.Proofs.Ytnnchaggdnlfmaa.Pure
open Go.RowKit Go.Proofs.Ytnnchaggdnlfmaa.PFnExactUnusedPoints Go.Proofs.YtnnchaggdnlfmaaW.PrintWords Go.Proofs.YtnnchaggdnlfmaaW.PrintLast Go.Proofs.YtnnchaggdnlfmaaW.PrintMore
set_option linter.unusedVariables false
set_option linter.unusedSimpArgs false

theorem facesFrom_all (pts : List S73) (fs : List S103) : ∀ (d i : Nat),facesFrom pts fs d i = true → ∀ j,i ≤ j → j < i + d → faceGood pts fs j = true
 | 0,i,_,j,h1,h2 => absurd h2 (by omega)
 | d + 1,i,h,j,h1,h2 => by
  rw [facesFrom_succ,Bool.and_eq_true] at h
  by_cases e : j = i
  ·rw [e]
   exact h.1
  ·exact facesFrom_all pts fs d (i + 1) h.2 j (by omega) (by omega)
theorem drawB_face {w h : Int} {pts : List S73} {fs : List S103} (hd : drawB w h pts fs = true) (i : Nat) (hi : i < fs.length) : ringOk pts (fs.getD i z103).f1 = true ∧ validB (ringP pts (fs.getD i z103).f1) = true:=by
 unfold drawB at hd
 simp only [Bool.and_eq_true] at hd
 have:=facesFrom_all pts fs fs.length 0 hd.2.2 i (by omega) (by omega)
 rw [faceGood_eq] at this
 simp only [Bool.and_eq_true] at this
 exact this.2.2
theorem drawB_valid {w h : Int} {pts : List S73} {fs : List S103} (hd : drawB w h pts fs = true) (hs : ShortP fs) (i : Nat) (hi : i < fs.length) : Valid (ringP pts (fs.getD i z103).f1) :=
 ((validB_eq (ringP pts (fs.getD i z103).f1) (by rw [ringP_length];exact (hs i hi).2) 1000 (Nat.le_refl _)).2.2).1 (drawB_face hd i hi).2

theorem p_ext {x y : S73} (h0 : x.f0 = y.f0) (h1 : x.f1 = y.f1) : x = y:=by
 cases x
 cases y
 simp_all
theorem getD_set_self (x : List S73) (i : Nat) (v : S73) (h : i < x.length) : (x.set i v).getD i z73 = v:=by
 rw [List.getD_eq_getElem?_getD,List.getElem?_set_self h]
 rfl
theorem getD_set_ne (x : List S73) (i j : Nat) (v : S73) (h : i ≠ j) : (x.set i v).getD j z73 = x.getD j z73:=by
 rw [List.getD_eq_getElem?_getD,List.getElem?_set_ne h,List.getD_eq_getElem?_getD]
theorem mark_loop (n : Nat) (hn : n ≤ 1000000000) : ∀ (d k i : Nat) (x : List S73),x.length = n → i ≤ n → n - i ≤ d → d < k → (∀ j,j < i → x.getD j z73 = ⟨1 + 2 * (j : Int),1 + 2 * (j : Int) + 1⟩) →
  ∃ m : List S73,laws_markPointS.l0 k x (1 + 2 * (i : Int)) i = some (1 + 2 * (n : Int),m) ∧ m.length = n ∧ ∀ j,j < n → m.getD j z73 = ⟨1 + 2 * (j : Int),1 + 2 * (j : Int) + 1⟩
 | d,0,i,x,_,_,_,h,_ => absurd h (by omega)
 | d,k + 1,i,x,hx,hi,h1,h2,hm => by
  simp only [laws_markPointS.l0]
  by_cases hlt : i < n
  ·rw [if_pos (by omega),if_pos (by omega),Option.bind_some,Int.toNat_natCast,rdN,rdN,getD_set_self x i _ (by omega),w1 (by omega),w64 (x:=1 + 2 * (i : Int) + 1) (by omega) (by omega),w64 (x:=1 + 2 * (i : Int) + 1 + 1) (by omega) (by omega)]
   have:=mark_loop n hn (d - 1) k (i + 1) ((x.set i ⟨1 + 2 * (i : Int),(x.getD i z73).f1⟩).set i ⟨1 + 2 * (i : Int),1 + 2 * (i : Int) + 1⟩) (by simp [hx]) (by omega) (by omega) (by omega) (fun j hj => by
    by_cases e : i = j
    ·subst e
     rw [getD_set_self _ _ _ (by simp;omega)]
    ·rw [getD_set_ne _ _ _ _ e,getD_set_ne _ _ _ _ e]
     exact hm j (by omega))
   rw [show (1 + 2 * (i : Int) + 1 + 1) = 1 + 2 * ((i + 1 : Nat) : Int) by omega]
   exact this
  ·have e : i = n:=by omega
   subst e
   exact ⟨x,by rw [if_neg (by omega)],hx,hm⟩
theorem marked (x : List S73) (hn : x.length ≤ 1000000000) : ∃ (n : Int) (m : List S73),0 < n ∧ (∀ k,x.length < k → laws_markPointS.f k x 1 = some (n,m)):=by
 obtain ⟨m,h1,h2,h3⟩:=mark_loop x.length hn x.length (x.length + 1) 0 x rfl (by omega) (by omega) (by omega) (fun j hj => absurd hj (by omega))
 refine ⟨1 + 2 * (x.length : Int),m,by omega,fun k hk => ?_⟩
 unfold laws_markPointS.f
 exact at_rounds (fun k => laws_markPointS.mono_l k _ _ _) (show x.length + 1 ≤ k by omega) h1

theorem pmark_at (n : Nat) (hn : n ≤ 1048576) (a : Int) (ha : 0 ≤ a ∧ a ≤ 1000000000000) : ∀ (d i : Nat) (x : List S73),x.length = n → i ≤ n → n - i ≤ d → (∀ j,j < i → x.getD j z73 = ⟨a + 2 * (j : Int),a + 2 * (j : Int) + 1⟩) →
  ∃ m : List S73,m.length = n ∧ (∀ j,j < n → m.getD j z73 = ⟨a + 2 * (j : Int),a + 2 * (j : Int) + 1⟩) ∧ ∀ k,d < k → laws_markPointS.l0 k x (a + 2 * (i : Int)) i = some (a + 2 * (n : Int),m):=by
 intro d
 induction d with
 | zero =>
  intro i x hx hi h1 hm
  obtain rfl : i = n:=by omega
  refine ⟨x,hx,hm,fun k hk => ?_⟩
  obtain ⟨k,rfl⟩ : ∃ q,k = q + 1:=⟨k - 1,by omega⟩
  simp only [laws_markPointS.l0]
  rw [if_neg (by omega)]
 | succ d ih =>
  intro i x hx hi h1 hm
  by_cases hlt : i < n
  ·obtain ⟨m,g1,g2,g3⟩:=ih (i + 1) ((x.set i ⟨a + 2 * (i : Int),(x.getD i z73).f1⟩).set i ⟨a + 2 * (i : Int),a + 2 * (i : Int) + 1⟩) (by simp [hx]) (by omega) (by omega) (fun j hj => by
    by_cases e : i = j
    ·subst e
     rw [getD_set_self _ _ _ (by simp;omega)]
    ·rw [getD_set_ne _ _ _ _ e,getD_set_ne _ _ _ _ e]
     exact hm j (by omega))
   refine ⟨m,g1,g2,fun k hk => ?_⟩
   obtain ⟨k,rfl⟩ : ∃ q,k = q + 1:=⟨k - 1,by omega⟩
   simp only [laws_markPointS.l0]
   rw [if_pos (by omega),if_pos (by omega),Option.bind_some,Int.toNat_natCast,rdN,rdN,getD_set_self x i _ (by omega),w1 (by omega),w64 (x:=a + 2 * (i : Int) + 1) (by omega) (by omega),w64 (x:=a + 2 * (i : Int) + 1 + 1) (by omega) (by omega)]
   have:=g3 k (by omega)
   rw [show a + 2 * (i : Int) + 1 + 1 = a + 2 * ((i + 1 : Nat) : Int) by omega]
   exact this
  ·obtain rfl : i = n:=by omega
   refine ⟨x,hx,hm,fun k hk => ?_⟩
   obtain ⟨k,rfl⟩ : ∃ q,k = q + 1:=⟨k - 1,by omega⟩
   simp only [laws_markPointS.l0]
   rw [if_neg (by omega)]

theorem iset_self (x : List Int) (i : Nat) (v : Int) (h : i < x.length) : (x.set i v).length = x.length:=List.length_set
theorem imk_at (n : Nat) (hn : n ≤ 1048576) : ∀ (d i : Nat) (x : List Int) (a : Int),x.length = n → i ≤ n → n - i ≤ d → 0 ≤ a ∧ a ≤ 1000000000000000 + (i : Int) → ∃ m : List Int,m.length = n ∧ ∀ k,d < k → laws_markInt64S.l0 k x a i = some (a + ((n - i : Nat) : Int),m):=by
 intro d
 induction d with
 | zero =>
  intro i x a hx hi h1 ha
  obtain rfl : i = n:=by omega
  refine ⟨x,hx,fun k hk => ?_⟩
  obtain ⟨k,rfl⟩ : ∃ q,k = q + 1:=⟨k - 1,by omega⟩
  simp only [laws_markInt64S.l0]
  rw [if_neg (by omega),show a + ((i - i : Nat) : Int) = a by omega]
 | succ d ih =>
  intro i x a hx hi h1 ha
  by_cases hlt : i < n
  ·obtain ⟨m,g1,g2⟩:=ih (i + 1) (x.set i a) (a + 1) (by rw [List.length_set];exact hx) (by omega) (by omega) (by omega)
   refine ⟨m,g1,fun k hk => ?_⟩
   obtain ⟨k,rfl⟩ : ∃ q,k = q + 1:=⟨k - 1,by omega⟩
   have:=g2 k (by omega)
   simp only [laws_markInt64S.l0]
   rw [if_pos (by omega),if_pos (by omega),Int.toNat_natCast,w1 (by omega),w64 (x:=a + 1) (by omega) (by omega)]
   rw [show a + 1 + ((n - (i + 1) : Nat) : Int) = a + ((n - i : Nat) : Int) by omega] at this
   exact this
  ·obtain rfl : i = n:=by omega
   refine ⟨x,hx,fun k hk => ?_⟩
   obtain ⟨k,rfl⟩ : ∃ q,k = q + 1:=⟨k - 1,by omega⟩
   simp only [laws_markInt64S.l0]
   rw [if_neg (by omega),show a + ((i - i : Nat) : Int) = a by omega]
theorem imk_all (x : List Int) (hn : x.length ≤ 1048576) (a : Int) (ha : 0 ≤ a ∧ a ≤ 1000000000000000) : ∃ m : List Int,m.length = x.length ∧ ∀ k,x.length < k → laws_markInt64S.f k x a = some (a + x.length,m):=by
 obtain ⟨m,g1,g2⟩:=imk_at x.length hn x.length 0 x a rfl (by omega) (by omega) ha
 refine ⟨m,g1,fun k hk => ?_⟩
 unfold laws_markInt64S.f
 exact g2 k hk
theorem mtext_loop : ∀ (d : Nat) (x : Int) (t : ByteArray),x < 10 ^ d → x ≤ 9000000000000000000 → t.size + d ≤ 1000 → ∃ r,∀ k,d < k → laws_markText.l0 k x t = some r
 | d,x,t,hd,hx,ht => by
  by_cases h0 : x > 0
  ·cases d with
   | zero => simp at hd;omega
   | succ d =>
    have e1 : (strOfNums [(wrap64 (48 + (Int.tmod x 10))) % 256]).size = 1:=rfl
    have hq : Int.tdiv x 10 < 10 ^ d:=by
     rw [Int.tdiv_eq_ediv_of_nonneg (by omega)]
     rw [Int.pow_succ] at hd
     omega
    have hq2 : Int.tdiv x 10 ≤ 9000000000000000000:=by
     rw [Int.tdiv_eq_ediv_of_nonneg (by omega)]
     omega
    have hq3 : 0 ≤ Int.tdiv x 10:=by
     rw [Int.tdiv_eq_ediv_of_nonneg (by omega)]
     omega
    obtain ⟨r,hr⟩:=mtext_loop d (Int.tdiv x 10) (strOfNums [(wrap64 (48 + (Int.tmod x 10))) % 256] ++ t) hq hq2 (by rw [ByteArray.size_append,e1];omega)
    refine ⟨r,fun k hk => ?_⟩
    obtain ⟨k,rfl⟩ : ∃ m,k = m + 1:=⟨k - 1,by omega⟩
    rw [laws_markText.l0,if_pos h0,Option.bind_some,e1,if_pos (by omega),w64 (x:=Int.tdiv x 10) (by omega) (by omega)]
    exact hr k (by omega)
  ·refine ⟨(⟨#[109]⟩ : ByteArray) ++ t,fun k hk => ?_⟩
   obtain ⟨k,rfl⟩ : ∃ m,k = m + 1:=⟨k - 1,by omega⟩
   rw [laws_markText.l0,if_neg h0,if_pos (by omega)]
theorem mtext (x : Int) (hx : x ≤ 1000000000000000) : ∃ t,∀ k,20 ≤ k → laws_markText.f k x = some t:=by
 by_cases h0 : x ≤ 0
 ·refine ⟨(⟨#[109,48]⟩ : ByteArray),fun k _ => ?_⟩
  unfold laws_markText.f
  rw [if_pos h0]
 ·have e : (10 : Int) ^ 16 = 10000000000000000:=by decide
  have hz : (⟨#[]⟩ : ByteArray).size = 0:=rfl
  obtain ⟨r,hr⟩:=mtext_loop 16 x (⟨#[]⟩ : ByteArray) (by omega) (by omega) (by omega)
  refine ⟨r,fun k hk => ?_⟩
  unfold laws_markText.f
  rw [if_neg h0]
  exact hr k (by omega)
theorem fset_self (x : List S103) (i : Nat) (v : S103) (h : i < x.length) : (x.set i v).getD i z103 = v:=by
 rw [List.getD_eq_getElem?_getD,List.getElem?_set_self h]
 rfl
theorem fset_ne (x : List S103) (i j : Nat) (v : S103) (h : i ≠ j) : (x.set i v).getD j z103 = x.getD j z103:=by
 rw [List.getD_eq_getElem?_getD,List.getElem?_set_ne h,List.getD_eq_getElem?_getD]
theorem fmk_at (n : Nat) (hn : n ≤ 1048576) : ∀ (d i : Nat) (x : List S103) (a : Int),x.length = n → i ≤ n → n - i ≤ d → (∀ j,j < n → (x.getD j z103).f1.length ≤ 1048576) → 0 ≤ a ∧ a ≤ 3000000 + 1048577 * (i : Int) →
  ∃ (q : Int) (m : List S103),a ≤ q ∧ ∀ k,d + 1048600 < k → laws_markFaceS.l0 k x a i = some (q,m):=by
 intro d
 induction d with
 | zero =>
  intro i x a hx hi h1 hr ha
  refine ⟨a,x,Int.le_refl _,fun k hk => ?_⟩
  obtain ⟨k,rfl⟩ : ∃ q,k = q + 1:=⟨k - 1,by omega⟩
  simp only [laws_markFaceS.l0]
  rw [if_neg (by omega)]
 | succ d ih =>
  intro i x a hx hi h1 hr ha
  by_cases hlt : i < n
  ·obtain ⟨t,ht⟩:=mtext a (by omega)
   have hl:=hr i hlt
   obtain ⟨mi,e0,e1⟩:=imk_all (x.getD i z103).f1 hl (a + 1) (by omega)
   obtain ⟨q,m,g1,g2⟩:=ih (i + 1) ((x.set i ⟨t,(x.getD i z103).f1⟩).set i ⟨t,mi⟩) (a + 1 + (x.getD i z103).f1.length) (by rw [List.length_set,List.length_set];exact hx) (by omega) (by omega) (fun j hj => by
    by_cases e : i = j
    ·subst e
     rw [fset_self _ _ _ (by rw [List.length_set];omega)]
     show mi.length ≤ 1048576
     omega
    ·rw [fset_ne _ _ _ _ e,fset_ne _ _ _ _ e]
     exact hr j hj) (by omega)
   refine ⟨q,m,by omega,fun k hk => ?_⟩
   obtain ⟨k,rfl⟩ : ∃ q,k = q + 1:=⟨k - 1,by omega⟩
   have g:=g2 k (by omega)
   have f1 : (x.set i (⟨t,(x.getD i z103).f1⟩ : S103)).getD i z103 = ⟨t,(x.getD i z103).f1⟩:=fset_self _ _ _ (by omega)
   simp only [laws_markFaceS.l0]
   rw [if_pos (by omega),if_pos (by omega),ht k (by omega),Option.bind_some,Int.toNat_natCast,f1,w64 (x:=a + 1) (by omega) (by omega),e1 k (by omega),Option.bind_some,w1 (by omega)]
   exact g
  ·refine ⟨a,x,Int.le_refl _,fun k hk => ?_⟩
   obtain ⟨k,rfl⟩ : ∃ q,k = q + 1:=⟨k - 1,by omega⟩
   simp only [laws_markFaceS.l0]
   rw [if_neg (by omega)]
/-- A drawing can be marked. -/
theorem mark_drawing (w h : Int) (pts : List S73) (fs : List S103) (hp : pts.length ≤ 1048576) (hf : fs.length ≤ 1048576) (hs : ShortP fs) : ∃ q : Int,0 ≤ q ∧ ∀ k,3150000 ≤ k → laws_markDrawing.f k w h pts fs 1 = some q:=by
 obtain ⟨m1,g1,g2,_⟩:=pmark_at pts.length hp 1 (by omega) pts.length 0 pts rfl (by omega) (by omega) (fun j hj => absurd hj (by omega)) |>.imp fun m h => (⟨h.1,h.2.2,trivial⟩ : m.length = pts.length ∧ (∀ k,pts.length < k → laws_markPointS.l0 k pts (1 + 2 * ((0 : Nat) : Int)) ((0 : Nat) : Int) = some (1 + 2 * (pts.length : Int),m)) ∧ True)
 obtain ⟨q,m2,e1,e2⟩:=fmk_at fs.length hf fs.length 0 fs (1 + 2 * (pts.length : Int)) rfl (by omega) (by omega) (fun j hj => (hs j hj).2) (by omega)
 refine ⟨q,by omega,fun k hk => ?_⟩
 have a1:=g2 k (by omega)
 have a2:=e2 k (by omega)
 rw [show (1 : Int) + 2 * ((0 : Nat) : Int) = 1 by omega] at a1
 simp only [Int.natCast_zero] at a1 a2
 unfold laws_markDrawing.f laws_markPointS.f laws_markFaceS.f
 rw [a1,Option.bind_some]
 dsimp only
 rw [a2,Option.bind_some]

theorem getI_set_self (x : List Int) (i : Nat) (v : Int) (h : i < x.length) : (x.set i v).getD i 0 = v:=by
 rw [List.getD_eq_getElem?_getD,List.getElem?_set_self h]
 rfl
theorem getI_set_ne (x : List Int) (i j : Nat) (v : Int) (h : i ≠ j) : (x.set i v).getD j 0 = x.getD j 0:=by
 rw [List.getD_eq_getElem?_getD,List.getElem?_set_ne h,List.getD_eq_getElem?_getD]
theorem imark_loop (n : Nat) (hn : n ≤ 1000000000) (a : Int) (ha : 0 ≤ a ∧ a ≤ 1000000000000000) : ∀ (d k i : Nat) (x : List Int),x.length = n → i ≤ n → n - i ≤ d → d < k → (∀ j,j < i → x.getD j 0 = a + j) →
  ∃ m : List Int,laws_markInt64S.l0 k x (a + i) i = some (a + (n : Int),m) ∧ m.length = n ∧ ∀ j,j < n → m.getD j 0 = a + j
 | d,0,i,x,_,_,_,h,_ => absurd h (by omega)
 | d,k + 1,i,x,hx,hi,h1,h2,hm => by
  simp only [laws_markInt64S.l0]
  by_cases hlt : i < n
  ·rw [if_pos (by omega),if_pos (by omega),Int.toNat_natCast,w1' (by omega),w64 (x:=a + (i : Int) + 1) (by omega) (by omega),show (a + (i : Int) + 1) = a + ((i + 1 : Nat) : Int) by omega]
   exact imark_loop n hn a ha (d - 1) k (i + 1) (x.set i (a + i)) (by simp [hx]) (by omega) (by omega) (by omega) (fun j hj => by
    by_cases e : i = j
    ·subst e
     rw [getI_set_self _ _ _ (by omega)]
    ·rw [getI_set_ne _ _ _ _ e]
     exact hm j (by omega))
  ·have e : i = n:=by omega
   subst e
   exact ⟨x,by rw [if_neg (by omega)],hx,hm⟩
theorem iheld_loop (n : Nat) (hn : n ≤ 1000000000) (a : Int) (ha : 0 ≤ a ∧ a ≤ 1000000000000000) (m : List Int) (hl : m.length = n) (hm : ∀ j,j < n → m.getD j 0 = a + j) : ∀ (d k i : Nat),i ≤ n → n - i ≤ d → d < k → laws_heldInt64S.l0 k m (a + i) i = some (a + n)
 | d,0,i,_,_,h => absurd h (by omega)
 | d,k + 1,i,hi,h1,h2 => by
  simp only [laws_heldInt64S.l0]
  by_cases hlt : i < n
  ·rw [if_pos (by omega),if_pos (by omega),rd_nat,hm i hlt,if_pos rfl,w1' (by omega),w64 (x:=a + (i : Int) + 1) (by omega) (by omega),show (a + (i : Int) + 1) = a + ((i + 1 : Nat) : Int) by omega]
   exact iheld_loop n hn a ha m hl hm (d - 1) k (i + 1) (by omega) (by omega) (by omega)
  ·rw [if_neg (by omega),show i = n by omega]
/-- What is marked is held. -/
theorem imark_held_at (x : List Int) (hn : x.length ≤ 1000000000) (a : Int) (ha : 0 ≤ a ∧ a ≤ 1000000000000000) : ∃ m : List Int,m.length = x.length ∧ (∀ k,x.length < k → laws_markInt64S.f k x a = some (a + x.length,m)) ∧ (∀ k,x.length < k → laws_heldInt64S.f k m a = some (a + x.length)):=by
 have h0:=fun k (hk : x.length < k) => imark_loop x.length hn a ha x.length k 0 x rfl (by omega) (by omega) hk (fun j hj => absurd hj (by omega))
 obtain ⟨m,h1,h2,h3⟩:=h0 (x.length + 1) (by omega)
 simp only [Int.natCast_zero,Int.add_zero] at h1
 refine ⟨m,h2,fun k hk => ?_,fun k hk => ?_⟩
 ·unfold laws_markInt64S.f
  exact at_rounds (fun k => laws_markInt64S.mono_l k _ _ _) (show x.length + 1 ≤ k by omega) h1
 ·unfold laws_heldInt64S.f
  have:=iheld_loop x.length hn a ha m h2 h3 x.length k 0 (by omega) (by omega) hk
  simp only [Int.natCast_zero,Int.add_zero] at this
  exact this
theorem imark_held (x : List Int) (hn : x.length ≤ 1000000000) : ∃ (n : Int) (m : List Int),0 < n ∧ (∀ k,x.length < k → laws_markInt64S.f k x 1 = some (n,m)) ∧ (∀ k,x.length < k → laws_heldInt64S.f k m 1 = some n):=by
 obtain ⟨m,_,h1,h2⟩:=imark_held_at x hn 1 (by omega)
 exact ⟨1 + x.length,m,by omega,h1,h2⟩

def hasB (l : List Int) (a : Int) : Bool:=l.any fun y => y == a
theorem getD_of_lt (l : List Int) (i : Nat) (c : i < l.length) : l.getD i 0 = l[i]:=by
 rw [List.getD_eq_getElem?_getD,List.getElem?_eq_getElem c]
 rfl
theorem spec_has_loop (l : List Int) (hl : l.length ≤ 1048576) (a : Int) : ∀ (d k i : Nat),l.length - i ≤ d → d < k → spec_l00Has.l0 k l a i = some (hasB (l.drop i) a)
 | d,0,i,_,h2 => absurd h2 (by omega)
 | d,k + 1,i,h1,h2 => by
  simp only [spec_l00Has.l0]
  by_cases c : i < l.length
  ·rw [if_pos (by omega),if_pos (by omega),rd_nat,getD_of_lt l i c,w1 (by omega),spec_has_loop l hl a (d - 1) k (i + 1) (by omega) (by omega),List.drop_eq_getElem_cons c]
   unfold hasB
   rw [List.any_cons]
   by_cases e : l[i] = a
   ·rw [if_pos e,beq_iff_eq.mpr e,Bool.true_or]
   ·rw [if_neg e,beq_eq_false_iff_ne.mpr e,Bool.false_or]
  ·rw [if_neg (by omega),List.drop_eq_nil_of_le (by omega)]
   rfl
theorem spec_has_eq (l : List Int) (hl : l.length ≤ 1048576) (a : Int) (k : Nat) (hk : l.length < k) : spec_l00Has.f k l a = some (hasB l a):=by
 unfold spec_l00Has.f
 have:=spec_has_loop l hl a l.length k 0 (by omega) hk
 rw [List.drop_zero] at this
 exact this
theorem int_index_loop (l : List Int) (hl : l.length ≤ 1048576) (a : Int) : ∀ (d k i : Nat),l.length - i ≤ d → d < k → ∃ r,slices_Index_int64_int64.l0 k l a (l.length : Int) i = some r ∧ decide (r ≥ 0) = hasB (l.drop i) a
 | d,0,i,_,h2 => absurd h2 (by omega)
 | d,k + 1,i,h1,h2 => by
  simp only [slices_Index_int64_int64.l0]
  by_cases c : i < l.length
  ·obtain ⟨r,e1,e2⟩:=int_index_loop l hl a (d - 1) k (i + 1) (by omega) (by omega)
   rw [if_pos (by omega),if_pos (by omega),if_pos (by omega),rd_nat,getD_of_lt l i c,w1 (by omega),e1,List.drop_eq_getElem_cons c]
   unfold hasB at e2 ⊢
   rw [List.any_cons]
   by_cases e : a = l[i]
   ·rw [if_pos e]
    exact ⟨_,rfl,by rw [beq_iff_eq.mpr e.symm,Bool.true_or,decide_eq_true_eq];omega⟩
   ·rw [if_neg e]
    exact ⟨r,rfl,by rw [e2,beq_eq_false_iff_ne.mpr (Ne.symm e),Bool.false_or]⟩
  ·rw [if_neg (by omega),List.drop_eq_nil_of_le (by omega)]
   exact ⟨-1,rfl,rfl⟩
theorem impl_has_eq (l : List Int) (hl : l.length ≤ 1048576) (a : Int) (k : Nat) (hk : l.length < k) : slices_Contains_int64_int64.f k l a = some (hasB l a):=by
 unfold slices_Contains_int64_int64.f slices_Index_int64_int64.f
 obtain ⟨r,e1,e2⟩:=int_index_loop l hl a l.length k 0 (by omega) hk
 simp only [Int.natCast_zero,List.drop_zero] at e1 e2
 rw [e1,Option.bind_some,e2]
def usedF (fs : List S103) (a : Int) : Bool:=fs.any fun f => hasB f.f1 a
theorem getF_of_lt (l : List S103) (i : Nat) (c : i < l.length) : l.getD i z103 = l[i]:=by
 rw [List.getD_eq_getElem?_getD,List.getElem?_eq_getElem c]
 rfl
theorem used_cons (fs : List S103) (a : Int) (i : Nat) (c : i < fs.length) : usedF (fs.drop i) a = (hasB (fs.getD i z103).f1 a || usedF (fs.drop (i + 1)) a):=by
 rw [List.drop_eq_getElem_cons c,getF_of_lt fs i c]
 rfl
theorem impl_used_loop (fs : List S103) (hf : fs.length ≤ 1048576) (hs : ShortP fs) (a : Int) : ∀ (d k i : Nat),fs.length - i ≤ d → d + 1048577 < k → ∃ r,impl_unused.ix k fs a i = some r ∧ decide (r ≥ 0) = usedF (fs.drop i) a
 | d,0,i,_,h2 => absurd h2 (by omega)
 | d,k + 1,i,h1,h2 => by
  simp only [impl_unused.ix]
  by_cases c : i < fs.length
  ·obtain ⟨r,e1,e2⟩:=impl_used_loop fs hf hs a (d - 1) k (i + 1) (by omega) (by omega)
   rw [if_pos (by omega),if_pos (by omega),rdF_nat,impl_has_eq _ (hs i c).2 a k (by have:=(hs i c).2;omega),Option.bind_some,w1 (by omega),e1,used_cons fs a i c]
   cases hasB (fs.getD i z103).f1 a with
   | true =>
    rw [if_pos rfl]
    exact ⟨_,rfl,by rw [Bool.true_or,decide_eq_true_eq];omega⟩
   | false =>
    rw [if_neg (by decide)]
    exact ⟨r,rfl,by rw [e2,Bool.false_or]⟩
  ·rw [if_neg (by omega),List.drop_eq_nil_of_le (by omega)]
   exact ⟨-1,rfl,rfl⟩
def unFrom (fs : List S103) : Nat → Nat → List Int
 | 0,_ => []
 | d + 1,i => (if usedF fs (i : Int) = true then [] else [(i : Int)]) ++ unFrom fs d (i + 1)
theorem unFrom_length (fs : List S103) : ∀ d i,(unFrom fs d i).length ≤ d
 | 0,_ => Nat.le_refl _
 | d + 1,i => by
  have:=unFrom_length fs d (i + 1)
  unfold unFrom
  rw [List.length_append]
  split <;> simp <;> omega
theorem impl_un_loop (pts : List S73) (hp : pts.length ≤ 1048576) (fs : List S103) (hf : fs.length ≤ 1048576) (hs : ShortP fs) : ∀ (d k i : Nat) (out : List Int),pts.length - i = d → d + 2100000 < k → out.length ≤ i →
  impl_unused.l0 k fs out (pts.length : Int) i = some (out ++ unFrom fs d i)
 | d,0,i,out,_,h2,_ => absurd h2 (by omega)
 | 0,k + 1,i,out,h1,h2,ho => by
  simp only [impl_unused.l0]
  rw [if_neg (by omega)]
  unfold unFrom
  rw [List.append_nil]
 | d + 1,k + 1,i,out,h1,h2,ho => by
  simp only [impl_unused.l0]
  obtain ⟨r,e1,e2⟩:=impl_used_loop fs hf hs i fs.length k 0 (by omega) (by omega)
  simp only [Int.natCast_zero,List.drop_zero] at e1 e2
  rw [if_pos (by omega),e1,Option.bind_some,w1 (by omega)]
  unfold unFrom
  rw [← e2]
  by_cases c : r ≥ 0
  ·rw [if_pos c,if_pos (decide_eq_true c),impl_un_loop pts hp fs hf hs d k (i + 1) _ (by omega) (by omega) (by omega),List.nil_append]
  ·rw [if_neg c,if_pos (show out.length < 17592186044416 by omega),if_neg (show ¬ decide (r ≥ 0) = true by rw [decide_eq_false c];decide),impl_un_loop pts hp fs hf hs d k (i + 1) _ (by omega) (by omega) (by rw [List.length_append];simp;omega),List.append_assoc]
theorem spec_in_loop (w h : Int) (pts : List S73) (fs : List S103) (hf : fs.length ≤ 1048576) (hs : ShortP fs) (out : List Int) (ho : out.length ≤ 1048576) (a : Int) (u : Bool) (K : Nat) (R : List Int × Int)
  (hR : ∀ k,K ≤ k → spec_UnusedPoints.l0 k (if u = true then out else out ++ [a]) (wrap64 (a + 1)) w h pts fs = some R) : ∀ (d k i : Nat) (b : Bool),fs.length - i ≤ d → K + d + 1048578 < k → (b || usedF (fs.drop i) a) = u → spec_UnusedPoints.l1 k out a b i w h pts fs = some R
 | d,0,i,b,_,h2,_ => absurd h2 (by omega)
 | d,k + 1,i,b,h1,h2,hu => by
  simp only [spec_UnusedPoints.l1]
  by_cases c : i < fs.length
  ·rw [if_pos (by omega),w1 (by omega)]
   cases b with
   | true =>
    rw [if_pos rfl]
    exact spec_in_loop w h pts fs hf hs out ho a u K R hR (d - 1) k (i + 1) true (by omega) (by omega) (by rw [← hu];rfl)
   | false =>
    rw [if_neg (by decide),if_pos (by omega),rdF_nat,spec_has_eq _ (hs i c).2 a k (by have:=(hs i c).2;omega),Option.bind_some]
    exact spec_in_loop w h pts fs hf hs out ho a u K R hR (d - 1) k (i + 1) _ (by omega) (by omega) (by rw [← hu,used_cons fs a i c,Bool.false_or])
  ·rw [if_neg (by omega)]
   rw [List.drop_eq_nil_of_le (by omega),show usedF [] a = false from rfl,Bool.or_false] at hu
   subst hu
   have:=hR k (by omega)
   cases b with
   | true =>
    rw [if_pos rfl]
    exact this
   | false =>
    rw [if_neg (by decide),if_pos (by omega)]
    exact this
theorem spec_un_loop (w h : Int) (pts : List S73) (hp : pts.length ≤ 1048576) (fs : List S103) (hf : fs.length ≤ 1048576) (hs : ShortP fs) : ∀ (d k i : Nat) (out : List Int),pts.length - i = d → 2100000 * (d + 1) < k → out.length ≤ i → spec_UnusedPoints.l0 k out i w h pts fs = some (out ++ unFrom fs d i,0)
 | d,0,i,out,_,h2,_ => absurd h2 (by omega)
 | 0,k + 1,i,out,h1,h2,ho => by
  simp only [spec_UnusedPoints.l0]
  rw [if_neg (by omega)]
  unfold unFrom
  rw [List.append_nil]
 | d + 1,k + 1,i,out,h1,h2,ho => by
  simp only [spec_UnusedPoints.l0]
  rw [if_pos (by omega)]
  have:=spec_in_loop w h pts fs hf hs out (by omega) i (usedF fs (i : Int)) (2100000 * (d + 1) + 1) (out ++ unFrom fs (d + 1) i,0) (fun k hk => by
   rw [w1 (by omega)]
   unfold unFrom
   cases usedF fs (i : Int) with
   | true =>
    rw [if_pos rfl,if_pos rfl,List.nil_append]
    exact spec_un_loop w h pts hp fs hf hs d k (i + 1) out (by omega) (by omega) (by omega)
   | false =>
    rw [if_neg (by decide),if_neg (by decide),← List.append_assoc]
    exact spec_un_loop w h pts hp fs hf hs d k (i + 1) _ (by omega) (by omega) (by rw [List.length_append];simp;omega)) fs.length k 0 false (by omega) (by omega) (by rw [List.drop_zero,Bool.false_or])
  simp only [Int.natCast_zero] at this
  exact this
theorem unus_eq (w h : Int) (pts : List S73) (fs : List S103) (hp : pts.length ≤ 1048576) (hf : fs.length ≤ 1048576) (hs : ShortP fs) : ∃ r : List Int × Int,r.1.length ≤ 1048576 ∧ ∀ k,2100000 * (pts.length + 1) + 3150002 ≤ k → spec_UnusedPoints.f k w h pts fs = some r ∧ impl_UnusedPoints.f k w h pts fs = some r:=by
 refine ⟨if drawB w h pts fs = true then (unFrom fs pts.length 0,0) else ([],1),?_,fun k hk => ⟨?_,?_⟩⟩
 ·have:=unFrom_length fs pts.length 0
  split
  ·show (unFrom fs pts.length 0).length ≤ 1048576
   omega
  ·simp
 ·unfold spec_UnusedPoints.f
  rw [spec_draw_eq w h pts fs hp hf hs _ (by omega),Option.bind_some]
  dsimp only
  cases drawB w h pts fs with
  | false => rfl
  | true =>
   rw [if_pos rfl,if_pos rfl]
   have:=spec_un_loop w h pts hp fs hf hs pts.length k 0 [] (by omega) (by omega) (Nat.le_refl _)
   simp only [Int.natCast_zero] at this
   rw [this]
   rfl
 ·unfold impl_UnusedPoints.f impl_unused.f
  rw [impl_draw_eq w h pts fs hp hf hs _ (by omega),Option.bind_some]
  cases drawB w h pts fs with
  | false => rfl
  | true =>
   rw [if_pos rfl,if_pos rfl]
   have:=impl_un_loop pts hp fs hf hs pts.length k 0 [] (by omega) (by omega) (Nat.le_refl _)
   simp only [Int.natCast_zero] at this
   rw [this]
   rfl
theorem FnExactUnusedPoints (w h : Int) (pts : List S75) (fs : List S126) (_ : (Lit.int .i64 w).wf = true) (_ : (Lit.int .i64 h).wf = true) (hp : pts.length ≤ maxLen) (hpg : ∀ x ∈ pts,(Lit.int .i64 x.f0).wf = true ∧ (Lit.int .i64 x.f1).wf = true) (hf : fs.length ≤ maxLen) (hg : ∀ x ∈ fs,x.f0.size ≤ maxLen ∧ (x.f1.length ≤ maxLen ∧ ∀ y ∈ x.f1,(Lit.int .i64 y).wf = true)) : ∃ k,laws_FnExactUnusedPoints.f k w h pts fs = some true:=by
 obtain ⟨B,hB⟩ : ∃ B : Nat,2100000 * (pts.length + 1) + fs.length + 3160000 ≤ B:=⟨_,Nat.le_refl _⟩
 refine ⟨B + 3,?_⟩
 unfold laws_FnExactUnusedPoints.f
 obtain ⟨r,e1,e2⟩:=szDrawing_eq w h pts fs hp hf hg (B + 3) (by omega)
 rw [e1,Option.bind_some]
 by_cases c : r < 0
 ·rw [if_pos c]
 ·rw [if_neg c]
  obtain ⟨h1,h2,h3⟩:=e2 (by omega)
  have td:=fun k (hk : 3000000 ≤ k) => toDrawing_eq w h pts fs h1 h2 h3 k hk
  have ed:=fun k (hk : 3000000 ≤ k) => eqDrawing_self w h pts fs h1 h2 h3 k hk
  obtain ⟨⟨g0,g1⟩,hr,hk⟩:=unus_eq w h (conv pts) (convF fs) (by rw [conv_length];exact h1) (by rw [convF_length];exact h2) (ShortP_conv fs h3)
  have hr : g0.length ≤ 1048576:=hr
  rw [conv_length] at hk
  obtain ⟨m0,hm0,a1⟩:=mark_drawing w h (conv pts) (convF fs) (by rw [conv_length];exact h1) (by rw [convF_length];exact h2) (ShortP_conv fs h3)
  obtain ⟨m1,_,b1,b2⟩:=imark_held_at g0 (by omega) 1 (by omega)
  have e3:=fun k (hk : 1048577 < k) => eqInt64S_self g0 (by omega) k (by omega)
  have q0 : ¬ m0 < 0:=by omega
  have q1 : ¬ (1 + (g0.length : Int)) < 0:=by omega
  rw [td (B + 3) (by omega),Option.bind_some]
  dsimp only
  rw [(hk (B + 3) (by omega)).1,Option.bind_some,Option.bind_some]
  dsimp only
  rw [(hk (B + 3) (by omega)).2,Option.bind_some]
  dsimp only
  rw [e3 (B + 3) (by omega),Option.bind_some,if_pos rfl]
  simp only [laws_FnExactUnusedPoints.j0,bne_self_eq_false,Bool.false_eq_true,if_false]
  rw [td (B + 2) (by omega),Option.bind_some]
  dsimp only
  rw [ed (B + 2) (by omega),Option.bind_some,if_pos rfl,a1 (B + 2) (by omega),Option.bind_some,if_neg q0,e3 (B + 2) (by omega),Option.bind_some,if_pos rfl]
  simp only [laws_FnExactUnusedPoints.j1,bne_self_eq_false,Bool.false_eq_true,if_false]
  rw [b1 (B + 1) (by omega),Option.bind_some]
  dsimp only
  rw [b2 (B + 1) (by omega),Option.bind_some,if_neg q1,if_pos rfl,td (B + 1) (by omega),Option.bind_some]
  dsimp only
  rw [(hk (B + 1) (by omega)).2,Option.bind_some]
  dsimp only
  rw [e3 (B + 1) (by omega),Option.bind_some,if_pos rfl]
  simp only [laws_FnExactUnusedPoints.j2,bne_self_eq_false,Bool.false_eq_true,if_false]
  rw [b2 B (by omega),Option.bind_some,if_neg q1,if_pos rfl]

end Go.Proofs.Ytnnchaggdnlfmaa.Pure
