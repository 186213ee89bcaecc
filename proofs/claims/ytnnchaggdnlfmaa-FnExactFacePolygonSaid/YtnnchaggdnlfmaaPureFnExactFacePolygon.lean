/- The plain law: what FnExactFacePolygon computes is true at every input. -/
import Derived.Test.YtnnchaggdnlfmaaLFnExactFacePolygonc
namespace Go.Proofs.Ytnnchaggdnlfmaa.Pure
open Go.RowKit Go.Proofs.Ytnnchaggdnlfmaa.PFnExactFacePolygon Go.Proofs.YtnnchaggdnlfmaaW.PrintWords Go.Proofs.YtnnchaggdnlfmaaW.PrintLast Go.Proofs.YtnnchaggdnlfmaaW.PrintMore
set_option linter.unusedVariables false
set_option linter.unusedSimpArgs false

theorem facesFrom_all (pts : List S73) (fs : List S103) : ∀ (d i : Nat),facesFrom pts fs d i = true → ∀ j,i ≤ j → j < i + d → faceGood pts fs j = true
 | 0,i,_,j,h1,h2 => absurd h2 (by omega)
 | d + 1,i,h,j,h1,h2 => by
  rw [facesFrom_succ,Bool.and_eq_true] at h
  by_cases e : j = i
  ·rw [e]
   exact h.1
  ·exact facesFrom_all pts fs d (i + 1) h.2 j (by omega) (by omega)
theorem drawB_face {w h : Int} {pts : List S73} {fs : List S103} (hd : drawB w h pts fs = true) (i : Nat) (hi : i < fs.length) : ringOk pts (fs.getD i z103).f1 = true ∧ validB (ringP pts (fs.getD i z103).f1) = true:=by
 unfold drawB at hd
 simp only [Bool.and_eq_true] at hd
 have:=facesFrom_all pts fs fs.length 0 hd.2.2 i (by omega) (by omega)
 rw [faceGood_eq] at this
 simp only [Bool.and_eq_true] at this
 exact this.2.2
theorem drawB_valid {w h : Int} {pts : List S73} {fs : List S103} (hd : drawB w h pts fs = true) (hs : ShortP fs) (i : Nat) (hi : i < fs.length) : Valid (ringP pts (fs.getD i z103).f1) :=
 ((validB_eq (ringP pts (fs.getD i z103).f1) (by rw [ringP_length];exact (hs i hi).2) 1000 (Nat.le_refl _)).2.2).1 (drawB_face hd i hi).2

theorem spec_polygon_eq {w h : Int} {pts : List S73} {fs : List S103} (hd : drawB w h pts fs = true) (hp : pts.length ≤ 1048576) (hs : ShortP fs) (i : Nat) (hi : i < fs.length) (k : Nat) (hk : 1048577 ≤ k) : spec_l05Polygon.f k w h pts fs i = some (ringP pts (fs.getD i z103).f1,w,h):=by
 have h2:=(hs i hi).2
 unfold spec_l05Polygon.f
 rw [if_pos (by omega),if_pos (by omega),rdF_nat,spec_ring_eq pts fs w h hp _ h2 k (by omega),if_pos (drawB_face hd i hi).1]
 rfl
theorem impl_polygon_eq {w h : Int} {pts : List S73} {fs : List S103} (hd : drawB w h pts fs = true) (hp : pts.length ≤ 1048576) (hs : ShortP fs) (i : Nat) (hi : i < fs.length) (k : Nat) (hk : 1048577 ≤ k) : impl_facePolygon.f k w h pts fs i = some (ringP pts (fs.getD i z103).f1):=by
 have h2:=(hs i hi).2
 unfold impl_facePolygon.f
 rw [if_pos (by omega),if_pos (by omega),rdF_nat,impl_ring_eq pts hp _ h2 k (by omega),if_pos (drawB_face hd i hi).1]
 rfl

theorem p_ext {x y : S73} (h0 : x.f0 = y.f0) (h1 : x.f1 = y.f1) : x = y:=by
 cases x
 cases y
 simp_all
theorem getD_set_self (x : List S73) (i : Nat) (v : S73) (h : i < x.length) : (x.set i v).getD i z73 = v:=by
 rw [List.getD_eq_getElem?_getD,List.getElem?_set_self h]
 rfl
theorem getD_set_ne (x : List S73) (i j : Nat) (v : S73) (h : i ≠ j) : (x.set i v).getD j z73 = x.getD j z73:=by
 rw [List.getD_eq_getElem?_getD,List.getElem?_set_ne h,List.getD_eq_getElem?_getD]
theorem mark_loop (n : Nat) (hn : n ≤ 1000000000) : ∀ (d k i : Nat) (x : List S73),x.length = n → i ≤ n → n - i ≤ d → d < k → (∀ j,j < i → x.getD j z73 = ⟨1 + 2 * (j : Int),1 + 2 * (j : Int) + 1⟩) →
  ∃ m : List S73,laws_markPointS.l0 k x (1 + 2 * (i : Int)) i = some (1 + 2 * (n : Int),m) ∧ m.length = n ∧ ∀ j,j < n → m.getD j z73 = ⟨1 + 2 * (j : Int),1 + 2 * (j : Int) + 1⟩
 | d,0,i,x,_,_,_,h,_ => absurd h (by omega)
 | d,k + 1,i,x,hx,hi,h1,h2,hm => by
  simp only [laws_markPointS.l0]
  by_cases hlt : i < n
  ·rw [if_pos (by omega),if_pos (by omega),Option.bind_some,Int.toNat_natCast,rdN,rdN,getD_set_self x i _ (by omega),w1 (by omega),w64 (x:=1 + 2 * (i : Int) + 1) (by omega) (by omega),w64 (x:=1 + 2 * (i : Int) + 1 + 1) (by omega) (by omega)]
   have:=mark_loop n hn (d - 1) k (i + 1) ((x.set i ⟨1 + 2 * (i : Int),(x.getD i z73).f1⟩).set i ⟨1 + 2 * (i : Int),1 + 2 * (i : Int) + 1⟩) (by simp [hx]) (by omega) (by omega) (by omega) (fun j hj => by
    by_cases e : i = j
    ·subst e
     rw [getD_set_self _ _ _ (by simp;omega)]
    ·rw [getD_set_ne _ _ _ _ e,getD_set_ne _ _ _ _ e]
     exact hm j (by omega))
   rw [show (1 + 2 * (i : Int) + 1 + 1) = 1 + 2 * ((i + 1 : Nat) : Int) by omega]
   exact this
  ·have e : i = n:=by omega
   subst e
   exact ⟨x,by rw [if_neg (by omega)],hx,hm⟩
theorem marked (x : List S73) (hn : x.length ≤ 1000000000) : ∃ (n : Int) (m : List S73),0 < n ∧ (∀ k,x.length < k → laws_markPointS.f k x 1 = some (n,m)):=by
 obtain ⟨m,h1,h2,h3⟩:=mark_loop x.length hn x.length (x.length + 1) 0 x rfl (by omega) (by omega) (by omega) (fun j hj => absurd hj (by omega))
 refine ⟨1 + 2 * (x.length : Int),m,by omega,fun k hk => ?_⟩
 unfold laws_markPointS.f
 exact at_rounds (fun k => laws_markPointS.mono_l k _ _ _) (show x.length + 1 ≤ k by omega) h1

theorem pmark_at (n : Nat) (hn : n ≤ 1048576) (a : Int) (ha : 0 ≤ a ∧ a ≤ 1000000000000) : ∀ (d i : Nat) (x : List S73),x.length = n → i ≤ n → n - i ≤ d → (∀ j,j < i → x.getD j z73 = ⟨a + 2 * (j : Int),a + 2 * (j : Int) + 1⟩) →
  ∃ m : List S73,m.length = n ∧ (∀ j,j < n → m.getD j z73 = ⟨a + 2 * (j : Int),a + 2 * (j : Int) + 1⟩) ∧ ∀ k,d < k → laws_markPointS.l0 k x (a + 2 * (i : Int)) i = some (a + 2 * (n : Int),m):=by
 intro d
 induction d with
 | zero =>
  intro i x hx hi h1 hm
  obtain rfl : i = n:=by omega
  refine ⟨x,hx,hm,fun k hk => ?_⟩
  obtain ⟨k,rfl⟩ : ∃ q,k = q + 1:=⟨k - 1,by omega⟩
  simp only [laws_markPointS.l0]
  rw [if_neg (by omega)]
 | succ d ih =>
  intro i x hx hi h1 hm
  by_cases hlt : i < n
  ·obtain ⟨m,g1,g2,g3⟩:=ih (i + 1) ((x.set i ⟨a + 2 * (i : Int),(x.getD i z73).f1⟩).set i ⟨a + 2 * (i : Int),a + 2 * (i : Int) + 1⟩) (by simp [hx]) (by omega) (by omega) (fun j hj => by
    by_cases e : i = j
    ·subst e
     rw [getD_set_self _ _ _ (by simp;omega)]
    ·rw [getD_set_ne _ _ _ _ e,getD_set_ne _ _ _ _ e]
     exact hm j (by omega))
   refine ⟨m,g1,g2,fun k hk => ?_⟩
   obtain ⟨k,rfl⟩ : ∃ q,k = q + 1:=⟨k - 1,by omega⟩
   simp only [laws_markPointS.l0]
   rw [if_pos (by omega),if_pos (by omega),Option.bind_some,Int.toNat_natCast,rdN,rdN,getD_set_self x i _ (by omega),w1 (by omega),w64 (x:=a + 2 * (i : Int) + 1) (by omega) (by omega),w64 (x:=a + 2 * (i : Int) + 1 + 1) (by omega) (by omega)]
   have:=g3 k (by omega)
   rw [show a + 2 * (i : Int) + 1 + 1 = a + 2 * ((i + 1 : Nat) : Int) by omega]
   exact this
  ·obtain rfl : i = n:=by omega
   refine ⟨x,hx,hm,fun k hk => ?_⟩
   obtain ⟨k,rfl⟩ : ∃ q,k = q + 1:=⟨k - 1,by omega⟩
   simp only [laws_markPointS.l0]
   rw [if_neg (by omega)]
theorem pheld_at (n : Nat) (hn : n ≤ 1048576) (a : Int) (ha : 0 ≤ a ∧ a ≤ 1000000000000) (m : List S73) (hl : m.length = n) (hm : ∀ j,j < n → m.getD j z73 = ⟨a + 2 * (j : Int),a + 2 * (j : Int) + 1⟩) : ∀ (d k i : Nat),i ≤ n → n - i ≤ d → d < k →
  laws_heldPointS.l0 k m (a + 2 * (i : Int)) i = some (a + 2 * (n : Int))
 | d,0,i,_,_,h => absurd h (by omega)
 | 0,k + 1,i,hi,h1,_ => by
  obtain rfl : i = n:=by omega
  simp only [laws_heldPointS.l0]
  rw [if_neg (by omega)]
 | d + 1,k + 1,i,hi,h1,h2 => by
  simp only [laws_heldPointS.l0]
  by_cases hlt : i < n
  ·have e:=hm i hlt
   rw [if_pos (by omega),if_pos (by omega),rdN,e]
   simp only
   rw [if_pos trivial,w64 (x:=a + 2 * (i : Int) + 1) (by omega) (by omega),if_pos rfl,w1 (by omega),w64 (by omega) (by omega),show a + 2 * (i : Int) + 1 + 1 = a + 2 * ((i + 1 : Nat) : Int) by omega]
   exact pheld_at n hn a ha m hl hm d k (i + 1) (by omega) (by omega) (by omega)
  ·obtain rfl : i = n:=by omega
   rw [if_neg (by omega)]
theorem pmark_held_at (x : List S73) (hn : x.length ≤ 1048576) (a : Int) (ha : 0 ≤ a ∧ a ≤ 1000000000000) : ∃ m : List S73,m.length = x.length ∧ (∀ k,x.length < k → laws_markPointS.f k x a = some (a + 2 * x.length,m)) ∧ (∀ k,x.length < k → laws_heldPointS.f k m a = some (a + 2 * x.length)):=by
 have z0 : a + 2 * ((0 : Nat) : Int) = a:=by omega
 obtain ⟨m,g1,g2,g3⟩:=pmark_at x.length hn a ha x.length 0 x rfl (by omega) (by omega) (fun j hj => absurd hj (by omega))
 refine ⟨m,g1,fun k hk => ?_,fun k hk => ?_⟩
 ·unfold laws_markPointS.f
  have:=g3 k hk
  rw [z0] at this
  exact this
 ·unfold laws_heldPointS.f
  have:=pheld_at x.length hn a ha m g1 g2 x.length k 0 (by omega) (by omega) hk
  rw [z0] at this
  exact this

theorem iset_self (x : List Int) (i : Nat) (v : Int) (h : i < x.length) : (x.set i v).length = x.length:=List.length_set
theorem imk_at (n : Nat) (hn : n ≤ 1048576) : ∀ (d i : Nat) (x : List Int) (a : Int),x.length = n → i ≤ n → n - i ≤ d → 0 ≤ a ∧ a ≤ 1000000000000000 + (i : Int) → ∃ m : List Int,m.length = n ∧ ∀ k,d < k → laws_markInt64S.l0 k x a i = some (a + ((n - i : Nat) : Int),m):=by
 intro d
 induction d with
 | zero =>
  intro i x a hx hi h1 ha
  obtain rfl : i = n:=by omega
  refine ⟨x,hx,fun k hk => ?_⟩
  obtain ⟨k,rfl⟩ : ∃ q,k = q + 1:=⟨k - 1,by omega⟩
  simp only [laws_markInt64S.l0]
  rw [if_neg (by omega),show a + ((i - i : Nat) : Int) = a by omega]
 | succ d ih =>
  intro i x a hx hi h1 ha
  by_cases hlt : i < n
  ·obtain ⟨m,g1,g2⟩:=ih (i + 1) (x.set i a) (a + 1) (by rw [List.length_set];exact hx) (by omega) (by omega) (by omega)
   refine ⟨m,g1,fun k hk => ?_⟩
   obtain ⟨k,rfl⟩ : ∃ q,k = q + 1:=⟨k - 1,by omega⟩
   have:=g2 k (by omega)
   simp only [laws_markInt64S.l0]
   rw [if_pos (by omega),if_pos (by omega),Int.toNat_natCast,w1 (by omega),w64 (x:=a + 1) (by omega) (by omega)]
   rw [show a + 1 + ((n - (i + 1) : Nat) : Int) = a + ((n - i : Nat) : Int) by omega] at this
   exact this
  ·obtain rfl : i = n:=by omega
   refine ⟨x,hx,fun k hk => ?_⟩
   obtain ⟨k,rfl⟩ : ∃ q,k = q + 1:=⟨k - 1,by omega⟩
   simp only [laws_markInt64S.l0]
   rw [if_neg (by omega),show a + ((i - i : Nat) : Int) = a by omega]
theorem imk_all (x : List Int) (hn : x.length ≤ 1048576) (a : Int) (ha : 0 ≤ a ∧ a ≤ 1000000000000000) : ∃ m : List Int,m.length = x.length ∧ ∀ k,x.length < k → laws_markInt64S.f k x a = some (a + x.length,m):=by
 obtain ⟨m,g1,g2⟩:=imk_at x.length hn x.length 0 x a rfl (by omega) (by omega) ha
 refine ⟨m,g1,fun k hk => ?_⟩
 unfold laws_markInt64S.f
 exact g2 k hk
theorem mtext_loop : ∀ (d : Nat) (x : Int) (t : ByteArray),x < 10 ^ d → x ≤ 9000000000000000000 → t.size + d ≤ 1000 → ∃ r,∀ k,d < k → laws_markText.l0 k x t = some r
 | d,x,t,hd,hx,ht => by
  by_cases h0 : x > 0
  ·cases d with
   | zero => simp at hd;omega
   | succ d =>
    have e1 : (strOfNums [(wrap64 (48 + (Int.tmod x 10))) % 256]).size = 1:=rfl
    have hq : Int.tdiv x 10 < 10 ^ d:=by
     rw [Int.tdiv_eq_ediv_of_nonneg (by omega)]
     rw [Int.pow_succ] at hd
     omega
    have hq2 : Int.tdiv x 10 ≤ 9000000000000000000:=by
     rw [Int.tdiv_eq_ediv_of_nonneg (by omega)]
     omega
    have hq3 : 0 ≤ Int.tdiv x 10:=by
     rw [Int.tdiv_eq_ediv_of_nonneg (by omega)]
     omega
    obtain ⟨r,hr⟩:=mtext_loop d (Int.tdiv x 10) (strOfNums [(wrap64 (48 + (Int.tmod x 10))) % 256] ++ t) hq hq2 (by rw [ByteArray.size_append,e1];omega)
    refine ⟨r,fun k hk => ?_⟩
    obtain ⟨k,rfl⟩ : ∃ m,k = m + 1:=⟨k - 1,by omega⟩
    rw [laws_markText.l0,if_pos h0,Option.bind_some,e1,if_pos (by omega),w64 (x:=Int.tdiv x 10) (by omega) (by omega)]
    exact hr k (by omega)
  ·refine ⟨(⟨#[109]⟩ : ByteArray) ++ t,fun k hk => ?_⟩
   obtain ⟨k,rfl⟩ : ∃ m,k = m + 1:=⟨k - 1,by omega⟩
   rw [laws_markText.l0,if_neg h0,if_pos (by omega)]
theorem mtext (x : Int) (hx : x ≤ 1000000000000000) : ∃ t,∀ k,20 ≤ k → laws_markText.f k x = some t:=by
 by_cases h0 : x ≤ 0
 ·refine ⟨(⟨#[109,48]⟩ : ByteArray),fun k _ => ?_⟩
  unfold laws_markText.f
  rw [if_pos h0]
 ·have e : (10 : Int) ^ 16 = 10000000000000000:=by decide
  have hz : (⟨#[]⟩ : ByteArray).size = 0:=rfl
  obtain ⟨r,hr⟩:=mtext_loop 16 x (⟨#[]⟩ : ByteArray) (by omega) (by omega) (by omega)
  refine ⟨r,fun k hk => ?_⟩
  unfold laws_markText.f
  rw [if_neg h0]
  exact hr k (by omega)
theorem fset_self (x : List S103) (i : Nat) (v : S103) (h : i < x.length) : (x.set i v).getD i z103 = v:=by
 rw [List.getD_eq_getElem?_getD,List.getElem?_set_self h]
 rfl
theorem fset_ne (x : List S103) (i j : Nat) (v : S103) (h : i ≠ j) : (x.set i v).getD j z103 = x.getD j z103:=by
 rw [List.getD_eq_getElem?_getD,List.getElem?_set_ne h,List.getD_eq_getElem?_getD]
theorem fmk_at (n : Nat) (hn : n ≤ 1048576) : ∀ (d i : Nat) (x : List S103) (a : Int),x.length = n → i ≤ n → n - i ≤ d → (∀ j,j < n → (x.getD j z103).f1.length ≤ 1048576) → 0 ≤ a ∧ a ≤ 3000000 + 1048577 * (i : Int) →
  ∃ (q : Int) (m : List S103),a ≤ q ∧ ∀ k,d + 1048600 < k → laws_markFaceS.l0 k x a i = some (q,m):=by
 intro d
 induction d with
 | zero =>
  intro i x a hx hi h1 hr ha
  refine ⟨a,x,Int.le_refl _,fun k hk => ?_⟩
  obtain ⟨k,rfl⟩ : ∃ q,k = q + 1:=⟨k - 1,by omega⟩
  simp only [laws_markFaceS.l0]
  rw [if_neg (by omega)]
 | succ d ih =>
  intro i x a hx hi h1 hr ha
  by_cases hlt : i < n
  ·obtain ⟨t,ht⟩:=mtext a (by omega)
   have hl:=hr i hlt
   obtain ⟨mi,e0,e1⟩:=imk_all (x.getD i z103).f1 hl (a + 1) (by omega)
   obtain ⟨q,m,g1,g2⟩:=ih (i + 1) ((x.set i ⟨t,(x.getD i z103).f1⟩).set i ⟨t,mi⟩) (a + 1 + (x.getD i z103).f1.length) (by rw [List.length_set,List.length_set];exact hx) (by omega) (by omega) (fun j hj => by
    by_cases e : i = j
    ·subst e
     rw [fset_self _ _ _ (by rw [List.length_set];omega)]
     show mi.length ≤ 1048576
     omega
    ·rw [fset_ne _ _ _ _ e,fset_ne _ _ _ _ e]
     exact hr j hj) (by omega)
   refine ⟨q,m,by omega,fun k hk => ?_⟩
   obtain ⟨k,rfl⟩ : ∃ q,k = q + 1:=⟨k - 1,by omega⟩
   have g:=g2 k (by omega)
   have f1 : (x.set i (⟨t,(x.getD i z103).f1⟩ : S103)).getD i z103 = ⟨t,(x.getD i z103).f1⟩:=fset_self _ _ _ (by omega)
   simp only [laws_markFaceS.l0]
   rw [if_pos (by omega),if_pos (by omega),ht k (by omega),Option.bind_some,Int.toNat_natCast,f1,w64 (x:=a + 1) (by omega) (by omega),e1 k (by omega),Option.bind_some,w1 (by omega)]
   exact g
  ·refine ⟨a,x,Int.le_refl _,fun k hk => ?_⟩
   obtain ⟨k,rfl⟩ : ∃ q,k = q + 1:=⟨k - 1,by omega⟩
   simp only [laws_markFaceS.l0]
   rw [if_neg (by omega)]
/-- A drawing can be marked. -/
theorem mark_drawing (w h : Int) (pts : List S73) (fs : List S103) (hp : pts.length ≤ 1048576) (hf : fs.length ≤ 1048576) (hs : ShortP fs) : ∃ q : Int,0 ≤ q ∧ ∀ k,3150000 ≤ k → laws_markDrawing.f k w h pts fs 1 = some q:=by
 obtain ⟨m1,g1,g2,_⟩:=pmark_at pts.length hp 1 (by omega) pts.length 0 pts rfl (by omega) (by omega) (fun j hj => absurd hj (by omega)) |>.imp fun m h => (⟨h.1,h.2.2,trivial⟩ : m.length = pts.length ∧ (∀ k,pts.length < k → laws_markPointS.l0 k pts (1 + 2 * ((0 : Nat) : Int)) ((0 : Nat) : Int) = some (1 + 2 * (pts.length : Int),m)) ∧ True)
 obtain ⟨q,m2,e1,e2⟩:=fmk_at fs.length hf fs.length 0 fs (1 + 2 * (pts.length : Int)) rfl (by omega) (by omega) (fun j hj => (hs j hj).2) (by omega)
 refine ⟨q,by omega,fun k hk => ?_⟩
 have a1:=g2 k (by omega)
 have a2:=e2 k (by omega)
 rw [show (1 : Int) + 2 * ((0 : Nat) : Int) = 1 by omega] at a1
 simp only [Int.natCast_zero] at a1 a2
 unfold laws_markDrawing.f laws_markPointS.f laws_markFaceS.f
 rw [a1,Option.bind_some]
 dsimp only
 rw [a2,Option.bind_some]

theorem fpoly_eq (w h : Int) (pts : List S73) (fs : List S103) (a : Int) (hp : pts.length ≤ 1048576) (hf : fs.length ≤ 1048576) (hs : ShortP fs) : ∃ r : List S73 × Int,r.1.length ≤ 1000 ∧ ∀ k,3150002 ≤ k → spec_FacePolygon.f k w h pts fs a = some r ∧ impl_FacePolygon.f k w h pts fs a = some r:=by
 have wl : wrap64 ((fs.length : Int) - 1) = (fs.length : Int) - 1:=w64 (by omega) (by omega)
 have r0 : rd [a] 0 = a:=rfl
 have w01 : wrap64 (0 + 1) = 1:=w64 (by omega) (by omega)
 have index : ∀ k,3150002 ≤ k → impl_faceIndex.f k w h pts fs [a] = some (if drawB w h pts fs = true then (if 0 ≤ a ∧ a ≤ (fs.length : Int) - 1 then 0 else 2) else 1):=by
  intro k hk
  obtain ⟨k,rfl⟩ : ∃ q,k = q + 2:=⟨k - 2,by omega⟩
  unfold impl_faceIndex.f
  rw [impl_draw_eq w h pts fs hp hf hs _ (by omega),Option.bind_some]
  cases drawB w h pts fs with
  | false => rfl
  | true =>
   rw [if_pos rfl,if_pos rfl,impl_faceIndex.l0,if_pos (by simp),if_pos (by omega),if_pos (by simp),r0,wl,impl_within_eq,Option.bind_some]
   by_cases c : 0 ≤ a ∧ a ≤ (fs.length : Int) - 1
   ·rw [decide_eq_true c,if_pos rfl,if_pos c,impl_faceIndex.l0,w01,if_neg (by simp)]
   ·rw [decide_eq_false c,if_neg (by decide),if_neg c]
 cases hd : drawB w h pts fs with
 | false =>
  rw [hd] at index
  refine ⟨([],1),by simp,fun k hk => ⟨?_,?_⟩⟩
  ·unfold spec_FacePolygon.f
   rw [spec_draw_eq w h pts fs hp hf hs _ (by omega),hd]
   rfl
  ·unfold impl_FacePolygon.f
   rw [index k hk]
   rfl
 | true =>
  rw [hd] at index
  by_cases c : 0 ≤ a ∧ a ≤ (fs.length : Int) - 1
  ·obtain ⟨i,rfl⟩ : ∃ i : Nat,a = (i : Int):=⟨a.toNat,by omega⟩
   have hi : i < fs.length:=by omega
   have hl:=(drawB_valid hd hs i hi).2.1
   refine ⟨(ringP pts (fs.getD i z103).f1,0),by show (ringP pts (fs.getD i z103).f1).length ≤ 1000;omega,fun k hk => ⟨?_,?_⟩⟩
   ·unfold spec_FacePolygon.f spec_l05Face.f
    rw [spec_draw_eq w h pts fs hp hf hs _ (by omega),hd,Option.bind_some]
    dsimp only
    rw [if_pos rfl,spec_l00In_eq,wl,decide_eq_true c,Option.bind_some,Option.bind_some]
    dsimp only
    rw [if_pos rfl,spec_polygon_eq hd hp hs i hi k (by omega),Option.bind_some]
   ·unfold impl_FacePolygon.f
    rw [index k hk,if_pos rfl,if_pos c,Option.bind_some,if_pos rfl,impl_polygon_eq hd hp hs i hi k (by omega),Option.bind_some]
  ·refine ⟨([],2),by simp,fun k hk => ⟨?_,?_⟩⟩
   ·unfold spec_FacePolygon.f spec_l05Face.f
    rw [spec_draw_eq w h pts fs hp hf hs _ (by omega),hd,Option.bind_some]
    dsimp only
    rw [if_pos rfl,spec_l00In_eq,wl,decide_eq_false c]
    rfl
   ·unfold impl_FacePolygon.f
    rw [index k hk,if_pos rfl,if_neg c]
    rfl
theorem FnExactFacePolygon (w h : Int) (pts : List S75) (fs : List S126) (a : Int) (_ : (Lit.int .i64 w).wf = true) (_ : (Lit.int .i64 h).wf = true) (hp : pts.length ≤ maxLen) (hpg : ∀ x ∈ pts,(Lit.int .i64 x.f0).wf = true ∧ (Lit.int .i64 x.f1).wf = true) (hf : fs.length ≤ maxLen) (hg : ∀ x ∈ fs,x.f0.size ≤ maxLen ∧ (x.f1.length ≤ maxLen ∧ ∀ y ∈ x.f1,(Lit.int .i64 y).wf = true)) (_ : (Lit.int .i64 a).wf = true) : ∃ k,laws_FnExactFacePolygon.f k w h pts fs a = some true:=by
 obtain ⟨B,hB⟩ : ∃ B : Nat,fs.length + 3160000 ≤ B:=⟨_,Nat.le_refl _⟩
 refine ⟨B + 3,?_⟩
 unfold laws_FnExactFacePolygon.f
 obtain ⟨r,e1,e2⟩:=szDrawing_eq w h pts fs hp hf hg (B + 3) (by omega)
 rw [e1,Option.bind_some]
 by_cases c : r < 0
 ·rw [if_pos c]
 ·rw [if_neg c]
  obtain ⟨h1,h2,h3⟩:=e2 (by omega)
  have td:=fun k (hk : 3000000 ≤ k) => toDrawing_eq w h pts fs h1 h2 h3 k hk
  have ed:=fun k (hk : 3000000 ≤ k) => eqDrawing_self w h pts fs h1 h2 h3 k hk
  obtain ⟨⟨g0,g1⟩,hr,hk⟩:=fpoly_eq w h (conv pts) (convF fs) a (by rw [conv_length];exact h1) (by rw [convF_length];exact h2) (ShortP_conv fs h3)
  have hr : g0.length ≤ 1000:=hr
  obtain ⟨m0,hm0,a1⟩:=mark_drawing w h (conv pts) (convF fs) (by rw [conv_length];exact h1) (by rw [convF_length];exact h2) (ShortP_conv fs h3)
  obtain ⟨m1,_,b1,b2⟩:=pmark_held_at g0 (by omega) 1 (by omega)
  have e3:=fun k (hk : 2000 < k) => eqPointS_self g0 (by omega) k (by omega)
  have q0 : ¬ m0 < 0:=by omega
  have q1 : ¬ (1 + 2 * (g0.length : Int)) < 0:=by omega
  rw [td (B + 3) (by omega),Option.bind_some]
  dsimp only
  rw [(hk (B + 3) (by omega)).1,Option.bind_some,Option.bind_some]
  dsimp only
  rw [(hk (B + 3) (by omega)).2,Option.bind_some]
  dsimp only
  rw [e3 (B + 3) (by omega),Option.bind_some,if_pos rfl]
  simp only [laws_FnExactFacePolygon.j0,bne_self_eq_false,Bool.false_eq_true,if_false]
  rw [td (B + 2) (by omega),Option.bind_some]
  dsimp only
  rw [ed (B + 2) (by omega),Option.bind_some,if_pos rfl,a1 (B + 2) (by omega),Option.bind_some,if_neg q0,e3 (B + 2) (by omega),Option.bind_some,if_pos rfl]
  simp only [laws_FnExactFacePolygon.j1,bne_self_eq_false,Bool.false_eq_true,if_false]
  rw [b1 (B + 1) (by omega),Option.bind_some]
  dsimp only
  rw [b2 (B + 1) (by omega),Option.bind_some,if_neg q1,if_pos rfl,td (B + 1) (by omega),Option.bind_some]
  dsimp only
  rw [(hk (B + 1) (by omega)).2,Option.bind_some]
  dsimp only
  rw [e3 (B + 1) (by omega),Option.bind_some,if_pos rfl]
  simp only [laws_FnExactFacePolygon.j2,bne_self_eq_false,Bool.false_eq_true,if_false]
  rw [b2 B (by omega),Option.bind_some,if_neg q1,if_pos rfl]

end Go.Proofs.Ytnnchaggdnlfmaa.Pure
