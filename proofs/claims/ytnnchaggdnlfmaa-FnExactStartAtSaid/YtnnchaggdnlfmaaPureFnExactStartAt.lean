/- The plain law: what FnExactStartAt computes is true at every input. -/
import Derived.Test.YtnnchaggdnlfmaaLFnExactStartAtb
namespace Go.Proofs.Ytnnchaggdnlfmaa.Pure
open Go.RowKit Go.Proofs.Ytnnchaggdnlfmaa.PFnExactStartAt Go.Proofs.YtnnchaggdnlfmaaW.PrintWords Go.Proofs.YtnnchaggdnlfmaaW.PrintLast Go.Proofs.YtnnchaggdnlfmaaW.PrintMore
set_option linter.unusedVariables false
set_option linter.unusedSimpArgs false

theorem eqPoint_self (x y : Int) : laws_eqPoint.f x y x y = some true:=by
 unfold laws_eqPoint.f
 rw [if_pos rfl,if_pos rfl]
theorem eqPointS_loop (l : List S73) (h : l.length ≤ 1000000000) : ∀ (d k i : Nat),l.length - i ≤ d → d < k → laws_eqPointS.l0 k l l i = some true
 | d,0,i,_,h2 => absurd h2 (by omega)
 | d,k + 1,i,h1,h2 => by
  simp only [laws_eqPointS.l0]
  by_cases hi : i < l.length
  ·rw [if_pos (by omega),if_pos (by omega),if_pos (by omega),eqPoint_self,Option.bind_some,if_pos rfl,w1 (by omega)]
   exact eqPointS_loop l h (d - 1) k (i + 1) (by omega) (by omega)
  ·rw [if_neg (by omega)]
theorem eqPointS_self (l : List S73) (h : l.length ≤ 1000000000) (k : Nat) (hk : l.length < k) : laws_eqPointS.f k l l = some true:=by
 unfold laws_eqPointS.f
 rw [if_pos rfl]
 exact eqPointS_loop l h l.length k 0 (by omega) hk

/-- The law's points as the program's. -/
def conv (l : List S75) : List S73:=l.map fun s => ⟨s.f0,s.f1⟩
theorem conv_length (l : List S75) : (conv l).length = l.length:=by
 unfold conv
 rw [List.length_map]
theorem sz_small (l : List S75) (h : l.length ≤ 1048576) : laws_szPointS.f l 1048576 = some (1048576 - (l.length : Int)):=by
 unfold laws_szPointS.f
 rw [w64 (by omega) (by omega),if_neg (by omega)]
theorem sz_large (l : List S75) (hm : l.length ≤ 9223372036854775807) (h : 1048576 < l.length) : laws_szPointS.f l 1048576 = some (-1):=by
 unfold laws_szPointS.f
 rw [w64 (by omega) (by omega),if_pos (by omega)]
theorem rdLN (l : List S75) (j : Nat) : rd_T75 l (j : Int) = l.getD j z75:=by
 unfold rd_T75
 rw [Int.toNat_natCast]
theorem toPointS_loop (l : List S75) (h : l.length ≤ 1048576) : ∀ (d k i : Nat) (x : List S73),i ≤ l.length → l.length - i ≤ d → d < k → x.length = l.length → laws_toPointS.l0 k l x i = some (x.take i ++ (conv l).drop i)
 | d,0,i,x,_,_,h2,_ => absurd h2 (by omega)
 | d,k + 1,i,x,h0,h1,h2,hx => by
  simp only [laws_toPointS.l0,laws_toPoint.f]
  by_cases hi : i < l.length
  ·rw [if_pos (by omega),if_pos (by omega),Option.bind_some,if_pos (by omega),w1 (by omega),toPointS_loop l h (d - 1) k (i + 1) _ (by omega) (by omega) (by omega) (by rw [List.length_set,hx]),rdLN]
   have e : l.getD i z75 = l[i]:=by
    rw [List.getD_eq_getElem?_getD,List.getElem?_eq_getElem hi]
    rfl
   rw [e,Int.toNat_natCast,List.take_succ_eq_append_getElem (by rw [List.length_set,hx];exact hi),List.getElem_set_self,List.take_set_of_le (Nat.le_refl _),List.append_assoc]
   congr 2
   rw [List.drop_eq_getElem_cons (i:=i) (by rw [conv_length];exact hi)]
   unfold conv
   rw [List.getElem_map]
   rfl
  ·rw [if_neg (by omega),List.take_of_length_le (by omega),List.drop_eq_nil_of_le (by rw [conv_length];omega),List.append_nil]
theorem toPointS_eq (l : List S75) (h : l.length ≤ 1048576) (k : Nat) (hk : l.length < k) : laws_toPointS.f k l = some (conv l):=by
 unfold laws_toPointS.f
 rw [if_pos (by omega),if_pos (by omega)]
 have:=toPointS_loop l h l.length k 0 (List.replicate ((l.length : Int) : Int).toNat z73) (by omega) (by omega) hk (by rw [List.length_replicate,Int.toNat_natCast])
 simp only [Int.natCast_zero] at this
 rw [this,List.take_zero,List.nil_append,List.drop_zero]

theorem back_eq (l : List S75) (h : l.length ≤ 1048576) (k : Nat) (hk : l.length < k) : ((laws_toPointS.f k l).bind fun t => (laws_eqPointS.f k (conv l) t).bind fun b => if b = true then some true else some false) = some true:=by
 rw [toPointS_eq l h k hk,Option.bind_some,eqPointS_self (conv l) (by rw [conv_length];omega) k (by rw [conv_length];omega)]
 rfl

theorem p_ext {x y : S73} (h0 : x.f0 = y.f0) (h1 : x.f1 = y.f1) : x = y:=by
 cases x
 cases y
 simp_all
theorem getD_set_self (x : List S73) (i : Nat) (v : S73) (h : i < x.length) : (x.set i v).getD i z73 = v:=by
 rw [List.getD_eq_getElem?_getD,List.getElem?_set_self h]
 rfl
theorem getD_set_ne (x : List S73) (i j : Nat) (v : S73) (h : i ≠ j) : (x.set i v).getD j z73 = x.getD j z73:=by
 rw [List.getD_eq_getElem?_getD,List.getElem?_set_ne h,List.getD_eq_getElem?_getD]
theorem mark_loop (n : Nat) (hn : n ≤ 1000000000) : ∀ (d k i : Nat) (x : List S73),x.length = n → i ≤ n → n - i ≤ d → d < k → (∀ j,j < i → x.getD j z73 = ⟨1 + 2 * (j : Int),1 + 2 * (j : Int) + 1⟩) →
  ∃ m : List S73,laws_markPointS.l0 k x (1 + 2 * (i : Int)) i = some (1 + 2 * (n : Int),m) ∧ m.length = n ∧ ∀ j,j < n → m.getD j z73 = ⟨1 + 2 * (j : Int),1 + 2 * (j : Int) + 1⟩
 | d,0,i,x,_,_,_,h,_ => absurd h (by omega)
 | d,k + 1,i,x,hx,hi,h1,h2,hm => by
  simp only [laws_markPointS.l0]
  by_cases hlt : i < n
  ·rw [if_pos (by omega),if_pos (by omega),Option.bind_some,Int.toNat_natCast,rdN,rdN,getD_set_self x i _ (by omega),w1 (by omega),w64 (x:=1 + 2 * (i : Int) + 1) (by omega) (by omega),w64 (x:=1 + 2 * (i : Int) + 1 + 1) (by omega) (by omega)]
   have:=mark_loop n hn (d - 1) k (i + 1) ((x.set i ⟨1 + 2 * (i : Int),(x.getD i z73).f1⟩).set i ⟨1 + 2 * (i : Int),1 + 2 * (i : Int) + 1⟩) (by simp [hx]) (by omega) (by omega) (by omega) (fun j hj => by
    by_cases e : i = j
    ·subst e
     rw [getD_set_self _ _ _ (by simp;omega)]
    ·rw [getD_set_ne _ _ _ _ e,getD_set_ne _ _ _ _ e]
     exact hm j (by omega))
   rw [show (1 + 2 * (i : Int) + 1 + 1) = 1 + 2 * ((i + 1 : Nat) : Int) by omega]
   exact this
  ·have e : i = n:=by omega
   subst e
   exact ⟨x,by rw [if_neg (by omega)],hx,hm⟩
theorem marked (x : List S73) (hn : x.length ≤ 1000000000) : ∃ (n : Int) (m : List S73),0 < n ∧ (∀ k,x.length < k → laws_markPointS.f k x 1 = some (n,m)):=by
 obtain ⟨m,h1,h2,h3⟩:=mark_loop x.length hn x.length (x.length + 1) 0 x rfl (by omega) (by omega) (by omega) (fun j hj => absurd hj (by omega))
 refine ⟨1 + 2 * (x.length : Int),m,by omega,fun k hk => ?_⟩
 unfold laws_markPointS.f
 exact at_rounds (fun k => laws_markPointS.mono_l k _ _ _) (show x.length + 1 ≤ k by omega) h1

theorem held_loop (n : Nat) (hn : n ≤ 1000000000) (m : List S73) (hl : m.length = n) (hm : ∀ j,j < n → m.getD j z73 = ⟨1 + 2 * (j : Int),1 + 2 * (j : Int) + 1⟩) : ∀ (d k i : Nat),i ≤ n → n - i ≤ d → d < k → laws_heldPointS.l0 k m (1 + 2 * (i : Int)) i = some (1 + 2 * (n : Int))
 | d,0,i,_,_,h => absurd h (by omega)
 | d,k + 1,i,hi,h1,h2 => by
  simp only [laws_heldPointS.l0]
  by_cases hlt : i < n
  ·rw [if_pos (by omega),if_pos (by omega),rdN,hm i hlt,if_pos rfl,w64 (x:=1 + 2 * (i : Int) + 1) (by omega) (by omega),if_pos rfl,w1 (by omega),w64 (x:=1 + 2 * (i : Int) + 1 + 1) (by omega) (by omega),show (1 + 2 * (i : Int) + 1 + 1) = 1 + 2 * ((i + 1 : Nat) : Int) by omega]
   exact held_loop n hn m hl hm (d - 1) k (i + 1) (by omega) (by omega) (by omega)
  ·rw [if_neg (by omega),show i = n by omega]
/-- What is marked is held. -/
theorem mark_held (x : List S73) (hn : x.length ≤ 1000000000) : ∃ (n : Int) (m : List S73),0 < n ∧ (∀ k,x.length < k → laws_markPointS.f k x 1 = some (n,m)) ∧ (∀ k,x.length < k → laws_heldPointS.f k m 1 = some n):=by
 obtain ⟨m,h1,h2,h3⟩:=mark_loop x.length hn x.length (x.length + 1) 0 x rfl (by omega) (by omega) (by omega) (fun j hj => absurd hj (by omega))
 refine ⟨1 + 2 * (x.length : Int),m,by omega,fun k hk => ?_,fun k hk => ?_⟩
 ·unfold laws_markPointS.f
  exact at_rounds (fun k => laws_markPointS.mono_l k _ _ _) (show x.length + 1 ≤ k by omega) h1
 ·unfold laws_heldPointS.f
  exact held_loop x.length hn m h2 h3 x.length k 0 (by omega) (by omega) hk

theorem con_step (X : List (List S73)) (i : Nat) (hi : i < X.length) (lx : X.length ≤ 1000) (x : Int) (h0 : 0 ≤ x ∧ x ≤ 1000000) (hl : (X.getD i []).length ≤ 1000000) (k : Nat) : impl_Point_88.l0 (k + 1) X x i = impl_Point_88.l0 k X (x + (X.getD i []).length) ((i + 1 : Nat) : Int):=by
 rw [impl_Point_88.l0,if_pos (by omega),if_pos (by omega),Int.toNat_natCast,w64 (x:=x + _) (by omega) (by omega),if_neg (by omega),w1 (by omega)]
theorem con_end (X : List (List S73)) (i : Nat) (hi : i = X.length) (x : Int) (h0 : 0 ≤ x ∧ x ≤ 1000000) (k : Nat) : impl_Point_88.l0 (k + 1) X x i = impl_Point_88.l1 k X [] ((0 : Nat) : Int):=by
 rw [impl_Point_88.l0,if_neg (by omega),if_pos (by omega),if_pos (by omega)]
 rfl
theorem con_add (X : List (List S73)) (i : Nat) (hi : i < X.length) (lx : X.length ≤ 1000) (acc : List S73) (ha : acc.length ≤ 1000000) (hl : (X.getD i []).length ≤ 1000000) (k : Nat) : impl_Point_88.l1 (k + 1) X acc i = impl_Point_88.l1 k X (acc ++ X.getD i []) ((i + 1 : Nat) : Int):=by
 rw [impl_Point_88.l1,if_pos (by omega),if_pos (by omega),Int.toNat_natCast,if_pos (by omega),w1 (by omega)]
theorem con_out (X : List (List S73)) (i : Nat) (hi : i = X.length) (acc : List S73) (k : Nat) : impl_Point_88.l1 (k + 1) X acc i = some acc:=by
 rw [impl_Point_88.l1,if_neg (by omega)]
theorem con_two (a b : List S73) (ha : a.length ≤ 1000) (hb : b.length ≤ 1000) (k : Nat) (hk : 10 ≤ k) : impl_Point_88.f k [a,b] = some (a ++ b):=by
 obtain ⟨k,rfl⟩ : ∃ q,k = q + 6:=⟨k - 6,by omega⟩
 have z0 : (0 : Int) = ((0 : Nat) : Int):=rfl
 have g0 : ([a,b] : List (List S73)).getD 0 [] = a:=rfl
 have g1 : ([a,b] : List (List S73)).getD 1 [] = b:=rfl
 have l2 : ([a,b] : List (List S73)).length = 2:=rfl
 unfold impl_Point_88.f
 have s1:=con_step [a,b] 0 (by rw [l2];omega) (by rw [l2];omega) 0 (by omega) (by rw [g0];omega) (k + 5)
 have s2:=con_step [a,b] 1 (by rw [l2];omega) (by rw [l2];omega) (0 + a.length) (by omega) (by rw [g1];omega) (k + 4)
 have s3:=con_end [a,b] 2 (by rw [l2]) (0 + a.length + b.length) (by omega) (k + 3)
 have s4:=con_add [a,b] 0 (by rw [l2];omega) (by rw [l2];omega) [] (by simp) (by rw [g0];omega) (k + 2)
 have s5:=con_add [a,b] 1 (by rw [l2];omega) (by rw [l2];omega) a (by omega) (by rw [g1];omega) (k + 1)
 have s6:=con_out [a,b] 2 (by rw [l2]) (a ++ b) k
 rw [g0] at s1 s4
 rw [g1] at s2 s5
 rw [List.nil_append] at s4
 exact s1.trans (s2.trans (s3.trans (s4.trans (s5.trans s6))))
theorem from_eq (p : List S73) (hn : p.length ≤ 1000) (j : Nat) (hj : j ≤ p.length) : spec_l03From.f p (j : Int) = some (p.drop j ++ p.take j):=by
 have l1 : (p.drop j).length ≤ 1000:=by rw [List.length_drop];omega
 have l2 : (p.take j).length ≤ 1000:=by rw [List.length_take];omega
 unfold spec_l03From.f
 rw [Option.bind_some,if_pos (by omega),if_pos (by omega),Option.bind_some,Int.toNat_natCast,List.nil_append,if_pos (by simp only [List.length_nil];omega),Option.bind_some,Option.bind_some,if_pos (by omega)]
theorem starts_eq (p : List S73) (j : Int) (hl : p.length ≤ 1048576) : ∃ r : List S73 × Int,r.1.length ≤ p.length ∧ (∀ k,1048577 ≤ k → spec_StartAt.f (k + 1) p j = some r) ∧ (∀ k,1048577 ≤ k → impl_StartAt.f (k + 1) p j = some r):=by
 obtain ⟨b,h1,h2,hv⟩:=spec_valid_eq p hl
 cases b with
 | false =>
  refine ⟨([],1),by simp,fun k hk => ?_,fun k hk => ?_⟩
  ·unfold spec_StartAt.f
   rw [h1 _ (by omega)]
   rfl
  ·unfold impl_StartAt.f
   rw [h2 _ (by omega)]
   rfl
 | true =>
  have hn:=(hv.1 rfl).2.1
  have h3:=(hv.1 rfl).1
  have wl : wrap64 ((p.length : Int) - 1) = (p.length : Int) - 1:=w64 (by omega) (by omega)
  by_cases hx : 0 ≤ j ∧ j ≤ (p.length : Int) - 1
  ·obtain ⟨j,rfl⟩ : ∃ q : Nat,j = (q : Int):=⟨j.toNat,by omega⟩
   have l1 : (p.drop j).length ≤ 1000:=by rw [List.length_drop];omega
   have l2 : (p.take j).length ≤ 1000:=by rw [List.length_take];omega
   refine ⟨(p.drop j ++ p.take j,0),by show (p.drop j ++ p.take j).length ≤ p.length;rw [List.length_append,List.length_drop,List.length_take];omega,fun k hk => ?_,fun k hk => ?_⟩
   ·unfold spec_StartAt.f
    rw [h1 _ (by omega),Option.bind_some,if_pos rfl,wl,spec_l00In_eq,Option.bind_some,decide_eq_true hx,if_pos rfl,from_eq p (by omega) j (by omega)]
    rfl
   ·unfold impl_StartAt.f
    rw [h2 _ (by omega),Option.bind_some,if_pos rfl,wl,impl_within_eq,Option.bind_some,decide_eq_true hx,if_pos rfl,if_pos (by omega),if_pos (by omega),Int.toNat_natCast,con_two _ _ l1 l2 _ (by omega)]
    rfl
  ·refine ⟨([],2),by simp,fun k hk => ?_,fun k hk => ?_⟩
   ·unfold spec_StartAt.f
    rw [h1 _ (by omega),Option.bind_some,if_pos rfl,wl,spec_l00In_eq,Option.bind_some,decide_eq_false hx]
    rfl
   ·unfold impl_StartAt.f
    rw [h2 _ (by omega),Option.bind_some,if_pos rfl,wl,impl_within_eq,Option.bind_some,decide_eq_false hx]
    rfl
theorem FnExactStartAt (l : List S75) (j : Int) (hl : l.length ≤ maxLen) (hg : ∀ x ∈ l,(Lit.int .i64 x.f0).wf = true ∧ (Lit.int .i64 x.f1).wf = true) (_ : (Lit.int .i64 j).wf = true) : ∃ k,laws_FnExactStartAt.f k l j = some true:=by
 unfold maxLen at hl
 by_cases hs : l.length ≤ 1048576
 ·obtain ⟨⟨g0,g1⟩,hr,h1,h2⟩:=starts_eq (conv l) j (by rw [conv_length];exact hs)
  rw [conv_length] at hr
  have hr : g0.length ≤ l.length:=hr
  obtain ⟨n0,m0,hn0,a1,a2⟩:=mark_held (conv l) (by rw [conv_length];omega)
  obtain ⟨n1,m1,hn1,b1,b2⟩:=mark_held g0 (by omega)
  rw [conv_length] at a1
  have e1:=fun k (hk : l.length < k) => toPointS_eq l hs k hk
  have e2:=fun k (hk : l.length < k) => eqPointS_self (conv l) (by rw [conv_length];omega) k (by rw [conv_length];exact hk)
  have e3:=fun k (hk : l.length < k) => eqPointS_self g0 (by omega) k (by omega)
  have b1':=fun k (hk : l.length < k) => b1 k (by omega)
  have b2':=fun k (hk : l.length < k) => b2 k (by omega)
  have h1':=fun k (hk : 1048578 ≤ k) => (by obtain ⟨k,rfl⟩ : ∃ m,k = m + 1:=⟨k - 1,by omega⟩;exact h1 k (by omega) : spec_StartAt.f k (conv l) j = some (g0,g1))
  have h2':=fun k (hk : 1048578 ≤ k) => (by obtain ⟨k,rfl⟩ : ∃ m,k = m + 1:=⟨k - 1,by omega⟩;exact h2 k (by omega) : impl_StartAt.f k (conv l) j = some (g0,g1))
  have q0 : ¬ n0 < 0:=by omega
  have q1 : ¬ n1 < 0:=by omega
  have q2 : ¬ (1048576 - (l.length : Int)) < 0:=by omega
  obtain ⟨B,hB⟩ : ∃ B : Nat,1048578 ≤ B:=⟨_,Nat.le_refl _⟩
  refine ⟨B + 3,?_⟩
  unfold laws_FnExactStartAt.f
  rw [sz_small l hs,Option.bind_some,if_neg q2,e1 (B + 3) (by omega),Option.bind_some]
  rw [h1' (B + 3) (by omega),Option.bind_some,Option.bind_some,h2' (B + 3) (by omega),Option.bind_some]
  try dsimp only
  rw [e3 (B + 3) (by omega),Option.bind_some,if_pos rfl]
  simp only [laws_FnExactStartAt.j0,bne_self_eq_false,Bool.false_eq_true,if_false]
  rw [e1 (B + 2) (by omega),Option.bind_some,e2 (B + 2) (by omega),Option.bind_some,if_pos rfl,a1 (B + 2) (by omega),Option.bind_some]
  try dsimp only
  rw [if_neg q0,e3 (B + 2) (by omega),Option.bind_some,if_pos rfl]
  simp only [laws_FnExactStartAt.j1,bne_self_eq_false,Bool.false_eq_true,if_false]
  rw [b1' (B + 1) (by omega),Option.bind_some]
  try dsimp only
  rw [b2' (B + 1) (by omega),Option.bind_some,if_neg q1,if_pos rfl,e1 (B + 1) (by omega),Option.bind_some,h2' (B + 1) (by omega),Option.bind_some]
  try dsimp only
  rw [e3 (B + 1) (by omega),Option.bind_some,if_pos rfl]
  simp only [laws_FnExactStartAt.j2,bne_self_eq_false,Bool.false_eq_true,if_false]
  rw [b2' B (by omega),Option.bind_some,if_neg q1,if_pos rfl]
 ·refine ⟨0,?_⟩
  unfold laws_FnExactStartAt.f
  rw [sz_large l hl (by omega)]
  rfl

end Go.Proofs.Ytnnchaggdnlfmaa.Pure
