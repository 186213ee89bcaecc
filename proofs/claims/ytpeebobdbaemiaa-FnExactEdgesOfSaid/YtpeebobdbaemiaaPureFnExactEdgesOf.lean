/- The plain law: what FnExactEdgesOf computes is true at every input. -/
import Derived.Test.YtpeebobdbaemiaaLFnExactEdgesOfc
namespace Go.Proofs.Ytpeebobdbaemiaa.Pure
open Go.RowKit Go.Proofs.Ytpeebobdbaemiaa.PFnExactEdgesOf Go.Proofs.YtpeebobdbaemiaaW.PrintWords Go.Proofs.YtpeebobdbaemiaaW.PrintLast Go.Proofs.YtpeebobdbaemiaaW.PrintMore
set_option linter.unusedVariables false
set_option linter.unusedSimpArgs false

theorem facesFrom_all (pts : List S78) (fs : List S64) : ∀ (d i : Nat),facesFrom pts fs d i = true → ∀ j,i ≤ j → j < i + d → faceGood pts fs j = true
 | 0,i,_,j,h1,h2 => absurd h2 (by omega)
 | d + 1,i,h,j,h1,h2 => by
  rw [facesFrom_succ,Bool.and_eq_true] at h
  by_cases e : j = i
  ·rw [e]
   exact h.1
  ·exact facesFrom_all pts fs d (i + 1) h.2 j (by omega) (by omega)
theorem drawB_face {w h : Int} {pts : List S78} {fs : List S64} (hd : drawB w h pts fs = true) (i : Nat) (hi : i < fs.length) : ringOk pts (fs.getD i z64).f1 = true ∧ validB (ringP pts (fs.getD i z64).f1) = true:=by
 unfold drawB at hd
 simp only [Bool.and_eq_true] at hd
 have:=facesFrom_all pts fs fs.length 0 hd.2.2 i (by omega) (by omega)
 rw [faceGood_eq] at this
 simp only [Bool.and_eq_true] at this
 exact this.2.2
theorem drawB_valid {w h : Int} {pts : List S78} {fs : List S64} (hd : drawB w h pts fs = true) (hs : ShortP fs) (i : Nat) (hi : i < fs.length) : Valid (ringP pts (fs.getD i z64).f1) :=
 ((validB_eq (ringP pts (fs.getD i z64).f1) (by rw [ringP_length];exact (hs i hi).2) 1000 (Nat.le_refl _)).2.2).1 (drawB_face hd i hi).2

theorem getI_set_self (x : List Int) (i : Nat) (v : Int) (h : i < x.length) : (x.set i v).getD i 0 = v:=by
 rw [List.getD_eq_getElem?_getD,List.getElem?_set_self h]
 rfl
theorem getI_set_ne (x : List Int) (i j : Nat) (v : Int) (h : i ≠ j) : (x.set i v).getD j 0 = x.getD j 0:=by
 rw [List.getD_eq_getElem?_getD,List.getElem?_set_ne h,List.getD_eq_getElem?_getD]
theorem imark_loop (n : Nat) (hn : n ≤ 1000000000) (a : Int) (ha : 0 ≤ a ∧ a ≤ 1000000000000000) : ∀ (d k i : Nat) (x : List Int),x.length = n → i ≤ n → n - i ≤ d → d < k → (∀ j,j < i → x.getD j 0 = a + j) →
  ∃ m : List Int,laws_markInt64S.l0 k x (a + i) i = some (a + (n : Int),m) ∧ m.length = n ∧ ∀ j,j < n → m.getD j 0 = a + j
 | d,0,i,x,_,_,_,h,_ => absurd h (by omega)
 | d,k + 1,i,x,hx,hi,h1,h2,hm => by
  simp only [laws_markInt64S.l0]
  by_cases hlt : i < n
  ·rw [if_pos (by omega),if_pos (by omega),Int.toNat_natCast,w1' (by omega),w64 (x:=a + (i : Int) + 1) (by omega) (by omega),show (a + (i : Int) + 1) = a + ((i + 1 : Nat) : Int) by omega]
   exact imark_loop n hn a ha (d - 1) k (i + 1) (x.set i (a + i)) (by simp [hx]) (by omega) (by omega) (by omega) (fun j hj => by
    by_cases e : i = j
    ·subst e
     rw [getI_set_self _ _ _ (by omega)]
    ·rw [getI_set_ne _ _ _ _ e]
     exact hm j (by omega))
  ·have e : i = n:=by omega
   subst e
   exact ⟨x,by rw [if_neg (by omega)],hx,hm⟩
theorem iheld_loop (n : Nat) (hn : n ≤ 1000000000) (a : Int) (ha : 0 ≤ a ∧ a ≤ 1000000000000000) (m : List Int) (hl : m.length = n) (hm : ∀ j,j < n → m.getD j 0 = a + j) : ∀ (d k i : Nat),i ≤ n → n - i ≤ d → d < k → laws_heldInt64S.l0 k m (a + i) i = some (a + n)
 | d,0,i,_,_,h => absurd h (by omega)
 | d,k + 1,i,hi,h1,h2 => by
  simp only [laws_heldInt64S.l0]
  by_cases hlt : i < n
  ·rw [if_pos (by omega),if_pos (by omega),rd_nat,hm i hlt,if_pos rfl,w1' (by omega),w64 (x:=a + (i : Int) + 1) (by omega) (by omega),show (a + (i : Int) + 1) = a + ((i + 1 : Nat) : Int) by omega]
   exact iheld_loop n hn a ha m hl hm (d - 1) k (i + 1) (by omega) (by omega) (by omega)
  ·rw [if_neg (by omega),show i = n by omega]
/-- What is marked is held. -/
theorem imark_held_at (x : List Int) (hn : x.length ≤ 1000000000) (a : Int) (ha : 0 ≤ a ∧ a ≤ 1000000000000000) : ∃ m : List Int,m.length = x.length ∧ (∀ k,x.length < k → laws_markInt64S.f k x a = some (a + x.length,m)) ∧ (∀ k,x.length < k → laws_heldInt64S.f k m a = some (a + x.length)):=by
 have h0:=fun k (hk : x.length < k) => imark_loop x.length hn a ha x.length k 0 x rfl (by omega) (by omega) hk (fun j hj => absurd hj (by omega))
 obtain ⟨m,h1,h2,h3⟩:=h0 (x.length + 1) (by omega)
 simp only [Int.natCast_zero,Int.add_zero] at h1
 refine ⟨m,h2,fun k hk => ?_,fun k hk => ?_⟩
 ·unfold laws_markInt64S.f
  exact at_rounds (fun k => laws_markInt64S.mono_l k _ _ _) (show x.length + 1 ≤ k by omega) h1
 ·unfold laws_heldInt64S.f
  have:=iheld_loop x.length hn a ha m h2 h3 x.length k 0 (by omega) (by omega) hk
  simp only [Int.natCast_zero,Int.add_zero] at this
  exact this
theorem imark_held (x : List Int) (hn : x.length ≤ 1000000000) : ∃ (n : Int) (m : List Int),0 < n ∧ (∀ k,x.length < k → laws_markInt64S.f k x 1 = some (n,m)) ∧ (∀ k,x.length < k → laws_heldInt64S.f k m 1 = some n):=by
 obtain ⟨m,_,h1,h2⟩:=imark_held_at x hn 1 (by omega)
 exact ⟨1 + x.length,m,by omega,h1,h2⟩

theorem rdE_nat (l : List S67) (j : Nat) : rd_T67 l (j : Int) = l.getD j z67:=by
 unfold rd_T67
 rw [Int.toNat_natCast]
/-- A ring's sides, each with its lesser end ahead. -/
def pairs (r : List Int) : List S67:=(List.range r.length).map fun i => ⟨mn (r.getD i 0) (r.getD ((i + 1) % r.length) 0),mx (r.getD i 0) (r.getD ((i + 1) % r.length) 0)⟩
theorem pairs_length (r : List Int) : (pairs r).length = r.length:=by
 unfold pairs
 rw [List.length_map,List.length_range]
theorem pairs_get (r : List Int) (i : Nat) (h : i < (pairs r).length) : (pairs r)[i] = ⟨mn (r.getD i 0) (r.getD ((i + 1) % r.length) 0),mx (r.getD i 0) (r.getD ((i + 1) % r.length) 0)⟩:=by
 simp [pairs]
def onB (r : List Int) (a b : Int) : Bool:=(pairs r).any fun e => mn a b == e.f0 && (mx a b == e.f1)
theorem two_ends (a b x y : Int) : (mn a b == mn x y && (mx a b == mx x y)) = decide ((x = a ∧ y = b) ∨ (x = b ∧ y = a)):=by
 rw [Bool.eq_iff_iff]
 simp only [Bool.and_eq_true,beq_iff_eq,decide_eq_true_eq]
 unfold mn mx
 by_cases c1 : b < a <;> by_cases c2 : y < x <;> by_cases c3 : a < b <;> by_cases c4 : x < y <;> simp only [c1,c2,c3,c4,if_true,if_false] <;> omega
theorem spec_has_loop (r : List Int) (hr : r.length ≤ 1048576) (a b : Int) : ∀ (d k i : Nat),r.length - i ≤ d → d < k → spec_l05HasEdge.l0 k r a b i = some (((pairs r).drop i).any fun e => mn a b == e.f0 && (mx a b == e.f1))
 | d,0,i,_,h2 => absurd h2 (by omega)
 | d,k + 1,i,h1,h2 => by
  simp only [spec_l05HasEdge.l0]
  by_cases c : i < r.length
  ·have hj : (i + 1) % r.length < r.length:=Nat.mod_lt _ (by omega)
   rw [if_pos (by omega),if_pos (by omega),if_neg (by omega),tm1 (by omega) c,w1 (by omega),if_pos (by omega),if_pos (by omega),rd_nat,rd_nat,spec_has_loop r hr a b (d - 1) k (i + 1) (by omega) (by omega),List.drop_eq_getElem_cons (i:=i) (by rw [pairs_length];exact c),List.any_cons,pairs_get]
   show _ = some ((mn a b == mn (r.getD i 0) (r.getD ((i + 1) % r.length) 0) && (mx a b == mx (r.getD i 0) (r.getD ((i + 1) % r.length) 0))) || _)
   rw [two_ends]
   generalize r.getD i 0 = x
   generalize r.getD ((i + 1) % r.length) 0 = y
   generalize (((pairs r).drop (i + 1)).any fun e => mn a b == e.f0 && (mx a b == e.f1)) = R
   clear hj
   repeat' split
   all_goals first
    | (rw [decide_eq_true (by omega)];rfl)
    | (rw [decide_eq_false (by omega)];rfl)
  ·rw [if_neg (by omega),List.drop_eq_nil_of_le (by rw [pairs_length];omega)]
   rfl
theorem spec_has_eq (r : List Int) (hr : r.length ≤ 1048576) (a b : Int) (k : Nat) (hk : r.length < k) : spec_l05HasEdge.f k r a b = some (onB r a b):=by
 unfold spec_l05HasEdge.f onB
 have:=spec_has_loop r hr a b r.length k 0 (by omega) hk
 rw [List.drop_zero] at this
 exact this
theorem impl_edges_loop (r : List Int) (hr : r.length ≤ 1048576) : ∀ (d k i : Nat) (out : List S67),r.length - i ≤ d → d < k → out.length ≤ i → impl_ringEdges.l0 k r out r (r.length : Int) i = some (out ++ (pairs r).drop i)
 | d,0,i,out,_,h2,_ => absurd h2 (by omega)
 | d,k + 1,i,out,h1,h2,ho => by
  simp only [impl_ringEdges.l0]
  by_cases c : i < r.length
  ·have hj : (i + 1) % r.length < r.length:=Nat.mod_lt _ (by omega)
   rw [if_pos (by omega),if_pos (by omega),if_pos (by omega),if_neg (by omega),tm1 (by omega) c,if_pos (by omega),if_pos (by omega),if_pos (by omega),rd_nat,rd_nat,w1 (by omega),impl_edges_loop r hr (d - 1) k (i + 1) _ (by omega) (by omega) (by rw [List.length_append];simp;omega),List.drop_eq_getElem_cons (i:=i) (by rw [pairs_length];exact c),pairs_get,List.append_assoc]
   rfl
  ·rw [if_neg (by omega),List.drop_eq_nil_of_le (by rw [pairs_length];omega),List.append_nil]
theorem impl_edges_eq (r : List Int) (hr : r.length ≤ 1048576) (k : Nat) (hk : r.length < k) : impl_ringEdges.f k r = some (pairs r):=by
 have h:=impl_edges_loop r hr r.length k 0 [] (by omega) hk (Nat.le_refl _)
 rw [List.drop_zero,List.nil_append] at h
 unfold impl_ringEdges.f
 simp only [Int.natCast_zero] at h
 exact h

theorem p_ext {x y : S78} (h0 : x.f0 = y.f0) (h1 : x.f1 = y.f1) : x = y:=by
 cases x
 cases y
 simp_all
theorem getD_set_self (x : List S78) (i : Nat) (v : S78) (h : i < x.length) : (x.set i v).getD i z78 = v:=by
 rw [List.getD_eq_getElem?_getD,List.getElem?_set_self h]
 rfl
theorem getD_set_ne (x : List S78) (i j : Nat) (v : S78) (h : i ≠ j) : (x.set i v).getD j z78 = x.getD j z78:=by
 rw [List.getD_eq_getElem?_getD,List.getElem?_set_ne h,List.getD_eq_getElem?_getD]
theorem mark_loop (n : Nat) (hn : n ≤ 1000000000) : ∀ (d k i : Nat) (x : List S78),x.length = n → i ≤ n → n - i ≤ d → d < k → (∀ j,j < i → x.getD j z78 = ⟨1 + 2 * (j : Int),1 + 2 * (j : Int) + 1⟩) →
  ∃ m : List S78,laws_markPointS.l0 k x (1 + 2 * (i : Int)) i = some (1 + 2 * (n : Int),m) ∧ m.length = n ∧ ∀ j,j < n → m.getD j z78 = ⟨1 + 2 * (j : Int),1 + 2 * (j : Int) + 1⟩
 | d,0,i,x,_,_,_,h,_ => absurd h (by omega)
 | d,k + 1,i,x,hx,hi,h1,h2,hm => by
  simp only [laws_markPointS.l0]
  by_cases hlt : i < n
  ·rw [if_pos (by omega),if_pos (by omega),Option.bind_some,Int.toNat_natCast,rdN,rdN,getD_set_self x i _ (by omega),w1 (by omega),w64 (x:=1 + 2 * (i : Int) + 1) (by omega) (by omega),w64 (x:=1 + 2 * (i : Int) + 1 + 1) (by omega) (by omega)]
   have:=mark_loop n hn (d - 1) k (i + 1) ((x.set i ⟨1 + 2 * (i : Int),(x.getD i z78).f1⟩).set i ⟨1 + 2 * (i : Int),1 + 2 * (i : Int) + 1⟩) (by simp [hx]) (by omega) (by omega) (by omega) (fun j hj => by
    by_cases e : i = j
    ·subst e
     rw [getD_set_self _ _ _ (by simp;omega)]
    ·rw [getD_set_ne _ _ _ _ e,getD_set_ne _ _ _ _ e]
     exact hm j (by omega))
   rw [show (1 + 2 * (i : Int) + 1 + 1) = 1 + 2 * ((i + 1 : Nat) : Int) by omega]
   exact this
  ·have e : i = n:=by omega
   subst e
   exact ⟨x,by rw [if_neg (by omega)],hx,hm⟩
theorem marked (x : List S78) (hn : x.length ≤ 1000000000) : ∃ (n : Int) (m : List S78),0 < n ∧ (∀ k,x.length < k → laws_markPointS.f k x 1 = some (n,m)):=by
 obtain ⟨m,h1,h2,h3⟩:=mark_loop x.length hn x.length (x.length + 1) 0 x rfl (by omega) (by omega) (by omega) (fun j hj => absurd hj (by omega))
 refine ⟨1 + 2 * (x.length : Int),m,by omega,fun k hk => ?_⟩
 unfold laws_markPointS.f
 exact at_rounds (fun k => laws_markPointS.mono_l k _ _ _) (show x.length + 1 ≤ k by omega) h1

theorem pmark_at (n : Nat) (hn : n ≤ 1048576) (a : Int) (ha : 0 ≤ a ∧ a ≤ 1000000000000) : ∀ (d i : Nat) (x : List S78),x.length = n → i ≤ n → n - i ≤ d → (∀ j,j < i → x.getD j z78 = ⟨a + 2 * (j : Int),a + 2 * (j : Int) + 1⟩) →
  ∃ m : List S78,m.length = n ∧ (∀ j,j < n → m.getD j z78 = ⟨a + 2 * (j : Int),a + 2 * (j : Int) + 1⟩) ∧ ∀ k,d < k → laws_markPointS.l0 k x (a + 2 * (i : Int)) i = some (a + 2 * (n : Int),m):=by
 intro d
 induction d with
 | zero =>
  intro i x hx hi h1 hm
  obtain rfl : i = n:=by omega
  refine ⟨x,hx,hm,fun k hk => ?_⟩
  obtain ⟨k,rfl⟩ : ∃ q,k = q + 1:=⟨k - 1,by omega⟩
  simp only [laws_markPointS.l0]
  rw [if_neg (by omega)]
 | succ d ih =>
  intro i x hx hi h1 hm
  by_cases hlt : i < n
  ·obtain ⟨m,g1,g2,g3⟩:=ih (i + 1) ((x.set i ⟨a + 2 * (i : Int),(x.getD i z78).f1⟩).set i ⟨a + 2 * (i : Int),a + 2 * (i : Int) + 1⟩) (by simp [hx]) (by omega) (by omega) (fun j hj => by
    by_cases e : i = j
    ·subst e
     rw [getD_set_self _ _ _ (by simp;omega)]
    ·rw [getD_set_ne _ _ _ _ e,getD_set_ne _ _ _ _ e]
     exact hm j (by omega))
   refine ⟨m,g1,g2,fun k hk => ?_⟩
   obtain ⟨k,rfl⟩ : ∃ q,k = q + 1:=⟨k - 1,by omega⟩
   simp only [laws_markPointS.l0]
   rw [if_pos (by omega),if_pos (by omega),Option.bind_some,Int.toNat_natCast,rdN,rdN,getD_set_self x i _ (by omega),w1 (by omega),w64 (x:=a + 2 * (i : Int) + 1) (by omega) (by omega),w64 (x:=a + 2 * (i : Int) + 1 + 1) (by omega) (by omega)]
   have:=g3 k (by omega)
   rw [show a + 2 * (i : Int) + 1 + 1 = a + 2 * ((i + 1 : Nat) : Int) by omega]
   exact this
  ·obtain rfl : i = n:=by omega
   refine ⟨x,hx,hm,fun k hk => ?_⟩
   obtain ⟨k,rfl⟩ : ∃ q,k = q + 1:=⟨k - 1,by omega⟩
   simp only [laws_markPointS.l0]
   rw [if_neg (by omega)]

theorem iset_self (x : List Int) (i : Nat) (v : Int) (h : i < x.length) : (x.set i v).length = x.length:=List.length_set
theorem imk_at (n : Nat) (hn : n ≤ 1048576) : ∀ (d i : Nat) (x : List Int) (a : Int),x.length = n → i ≤ n → n - i ≤ d → 0 ≤ a ∧ a ≤ 1000000000000000 + (i : Int) → ∃ m : List Int,m.length = n ∧ ∀ k,d < k → laws_markInt64S.l0 k x a i = some (a + ((n - i : Nat) : Int),m):=by
 intro d
 induction d with
 | zero =>
  intro i x a hx hi h1 ha
  obtain rfl : i = n:=by omega
  refine ⟨x,hx,fun k hk => ?_⟩
  obtain ⟨k,rfl⟩ : ∃ q,k = q + 1:=⟨k - 1,by omega⟩
  simp only [laws_markInt64S.l0]
  rw [if_neg (by omega),show a + ((i - i : Nat) : Int) = a by omega]
 | succ d ih =>
  intro i x a hx hi h1 ha
  by_cases hlt : i < n
  ·obtain ⟨m,g1,g2⟩:=ih (i + 1) (x.set i a) (a + 1) (by rw [List.length_set];exact hx) (by omega) (by omega) (by omega)
   refine ⟨m,g1,fun k hk => ?_⟩
   obtain ⟨k,rfl⟩ : ∃ q,k = q + 1:=⟨k - 1,by omega⟩
   have:=g2 k (by omega)
   simp only [laws_markInt64S.l0]
   rw [if_pos (by omega),if_pos (by omega),Int.toNat_natCast,w1 (by omega),w64 (x:=a + 1) (by omega) (by omega)]
   rw [show a + 1 + ((n - (i + 1) : Nat) : Int) = a + ((n - i : Nat) : Int) by omega] at this
   exact this
  ·obtain rfl : i = n:=by omega
   refine ⟨x,hx,fun k hk => ?_⟩
   obtain ⟨k,rfl⟩ : ∃ q,k = q + 1:=⟨k - 1,by omega⟩
   simp only [laws_markInt64S.l0]
   rw [if_neg (by omega),show a + ((i - i : Nat) : Int) = a by omega]
theorem imk_all (x : List Int) (hn : x.length ≤ 1048576) (a : Int) (ha : 0 ≤ a ∧ a ≤ 1000000000000000) : ∃ m : List Int,m.length = x.length ∧ ∀ k,x.length < k → laws_markInt64S.f k x a = some (a + x.length,m):=by
 obtain ⟨m,g1,g2⟩:=imk_at x.length hn x.length 0 x a rfl (by omega) (by omega) ha
 refine ⟨m,g1,fun k hk => ?_⟩
 unfold laws_markInt64S.f
 exact g2 k hk
theorem mtext_loop : ∀ (d : Nat) (x : Int) (t : ByteArray),x < 10 ^ d → x ≤ 9000000000000000000 → t.size + d ≤ 1000 → ∃ r,∀ k,d < k → laws_markText.l0 k x t = some r
 | d,x,t,hd,hx,ht => by
  by_cases h0 : x > 0
  ·cases d with
   | zero => simp at hd;omega
   | succ d =>
    have e1 : (strOfNums [(wrap64 (48 + (Int.tmod x 10))) % 256]).size = 1:=rfl
    have hq : Int.tdiv x 10 < 10 ^ d:=by
     rw [Int.tdiv_eq_ediv_of_nonneg (by omega)]
     rw [Int.pow_succ] at hd
     omega
    have hq2 : Int.tdiv x 10 ≤ 9000000000000000000:=by
     rw [Int.tdiv_eq_ediv_of_nonneg (by omega)]
     omega
    have hq3 : 0 ≤ Int.tdiv x 10:=by
     rw [Int.tdiv_eq_ediv_of_nonneg (by omega)]
     omega
    obtain ⟨r,hr⟩:=mtext_loop d (Int.tdiv x 10) (strOfNums [(wrap64 (48 + (Int.tmod x 10))) % 256] ++ t) hq hq2 (by rw [ByteArray.size_append,e1];omega)
    refine ⟨r,fun k hk => ?_⟩
    obtain ⟨k,rfl⟩ : ∃ m,k = m + 1:=⟨k - 1,by omega⟩
    rw [laws_markText.l0,if_pos h0,Option.bind_some,e1,if_pos (by omega),w64 (x:=Int.tdiv x 10) (by omega) (by omega)]
    exact hr k (by omega)
  ·refine ⟨(⟨#[109]⟩ : ByteArray) ++ t,fun k hk => ?_⟩
   obtain ⟨k,rfl⟩ : ∃ m,k = m + 1:=⟨k - 1,by omega⟩
   rw [laws_markText.l0,if_neg h0,if_pos (by omega)]
theorem mtext (x : Int) (hx : x ≤ 1000000000000000) : ∃ t,∀ k,20 ≤ k → laws_markText.f k x = some t:=by
 by_cases h0 : x ≤ 0
 ·refine ⟨(⟨#[109,48]⟩ : ByteArray),fun k _ => ?_⟩
  unfold laws_markText.f
  rw [if_pos h0]
 ·have e : (10 : Int) ^ 16 = 10000000000000000:=by decide
  have hz : (⟨#[]⟩ : ByteArray).size = 0:=rfl
  obtain ⟨r,hr⟩:=mtext_loop 16 x (⟨#[]⟩ : ByteArray) (by omega) (by omega) (by omega)
  refine ⟨r,fun k hk => ?_⟩
  unfold laws_markText.f
  rw [if_neg h0]
  exact hr k (by omega)
theorem fset_self (x : List S64) (i : Nat) (v : S64) (h : i < x.length) : (x.set i v).getD i z64 = v:=by
 rw [List.getD_eq_getElem?_getD,List.getElem?_set_self h]
 rfl
theorem fset_ne (x : List S64) (i j : Nat) (v : S64) (h : i ≠ j) : (x.set i v).getD j z64 = x.getD j z64:=by
 rw [List.getD_eq_getElem?_getD,List.getElem?_set_ne h,List.getD_eq_getElem?_getD]
theorem fmk_at (n : Nat) (hn : n ≤ 1048576) : ∀ (d i : Nat) (x : List S64) (a : Int),x.length = n → i ≤ n → n - i ≤ d → (∀ j,j < n → (x.getD j z64).f1.length ≤ 1048576) → 0 ≤ a ∧ a ≤ 3000000 + 1048577 * (i : Int) →
  ∃ (q : Int) (m : List S64),a ≤ q ∧ ∀ k,d + 1048600 < k → laws_markFaceS.l0 k x a i = some (q,m):=by
 intro d
 induction d with
 | zero =>
  intro i x a hx hi h1 hr ha
  refine ⟨a,x,Int.le_refl _,fun k hk => ?_⟩
  obtain ⟨k,rfl⟩ : ∃ q,k = q + 1:=⟨k - 1,by omega⟩
  simp only [laws_markFaceS.l0]
  rw [if_neg (by omega)]
 | succ d ih =>
  intro i x a hx hi h1 hr ha
  by_cases hlt : i < n
  ·obtain ⟨t,ht⟩:=mtext a (by omega)
   have hl:=hr i hlt
   obtain ⟨mi,e0,e1⟩:=imk_all (x.getD i z64).f1 hl (a + 1) (by omega)
   obtain ⟨q,m,g1,g2⟩:=ih (i + 1) ((x.set i ⟨t,(x.getD i z64).f1⟩).set i ⟨t,mi⟩) (a + 1 + (x.getD i z64).f1.length) (by rw [List.length_set,List.length_set];exact hx) (by omega) (by omega) (fun j hj => by
    by_cases e : i = j
    ·subst e
     rw [fset_self _ _ _ (by rw [List.length_set];omega)]
     show mi.length ≤ 1048576
     omega
    ·rw [fset_ne _ _ _ _ e,fset_ne _ _ _ _ e]
     exact hr j hj) (by omega)
   refine ⟨q,m,by omega,fun k hk => ?_⟩
   obtain ⟨k,rfl⟩ : ∃ q,k = q + 1:=⟨k - 1,by omega⟩
   have g:=g2 k (by omega)
   have f1 : (x.set i (⟨t,(x.getD i z64).f1⟩ : S64)).getD i z64 = ⟨t,(x.getD i z64).f1⟩:=fset_self _ _ _ (by omega)
   simp only [laws_markFaceS.l0]
   rw [if_pos (by omega),if_pos (by omega),ht k (by omega),Option.bind_some,Int.toNat_natCast,f1,w64 (x:=a + 1) (by omega) (by omega),e1 k (by omega),Option.bind_some,w1 (by omega)]
   exact g
  ·refine ⟨a,x,Int.le_refl _,fun k hk => ?_⟩
   obtain ⟨k,rfl⟩ : ∃ q,k = q + 1:=⟨k - 1,by omega⟩
   simp only [laws_markFaceS.l0]
   rw [if_neg (by omega)]
/-- A drawing can be marked. -/
theorem mark_drawing (w h : Int) (pts : List S78) (fs : List S64) (hp : pts.length ≤ 1048576) (hf : fs.length ≤ 1048576) (hs : ShortP fs) : ∃ q : Int,0 ≤ q ∧ ∀ k,3150000 ≤ k → laws_markDrawing.f k w h pts fs 1 = some q:=by
 obtain ⟨m1,g1,g2,_⟩:=pmark_at pts.length hp 1 (by omega) pts.length 0 pts rfl (by omega) (by omega) (fun j hj => absurd hj (by omega)) |>.imp fun m h => (⟨h.1,h.2.2,trivial⟩ : m.length = pts.length ∧ (∀ k,pts.length < k → laws_markPointS.l0 k pts (1 + 2 * ((0 : Nat) : Int)) ((0 : Nat) : Int) = some (1 + 2 * (pts.length : Int),m)) ∧ True)
 obtain ⟨q,m2,e1,e2⟩:=fmk_at fs.length hf fs.length 0 fs (1 + 2 * (pts.length : Int)) rfl (by omega) (by omega) (fun j hj => (hs j hj).2) (by omega)
 refine ⟨q,by omega,fun k hk => ?_⟩
 have a1:=g2 k (by omega)
 have a2:=e2 k (by omega)
 rw [show (1 : Int) + 2 * ((0 : Nat) : Int) = 1 by omega] at a1
 simp only [Int.natCast_zero] at a1 a2
 unfold laws_markDrawing.f laws_markPointS.f laws_markFaceS.f
 rw [a1,Option.bind_some]
 dsimp only
 rw [a2,Option.bind_some]

theorem onW_start (a0 a1 b0 b1 : Int) (ha : 0 ≤ a0 ∧ a0 ≤ 20000 ∧ 0 ≤ a1 ∧ a1 ≤ 20000) (hb : 0 ≤ b0 ∧ b0 ≤ 20000 ∧ 0 ≤ b1 ∧ b1 ≤ 20000) : onW a0 a1 b0 b1 a0 a1 = true:=by
 have e : sideW a0 a1 b0 b1 a0 a1 = 0:=by
  unfold sideW
  rw [Int.sub_self,Int.sub_self,w64 (x:=0) (by omega) (by omega),Int.mul_zero,Int.mul_zero,w64 (x:=0) (by omega) (by omega),Int.sub_self,w64 (x:=0) (by omega) (by omega)]
  rfl
 unfold onW
 rw [e]
 have h1 : mn a0 b0 ≤ a0 ∧ a0 ≤ mx a0 b0:=by
  unfold mn mx
  constructor <;> split <;> omega
 have h2 : mn a1 b1 ≤ a1 ∧ a1 ≤ mx a1 b1:=by
  unfold mn mx
  constructor <;> split <;> omega
 rw [decide_eq_true h1,decide_eq_true h2]
 rfl
theorem same2_true {a0 a1 b0 b1 : Int} (h0 : a0 = b0) (h1 : a1 = b1) : same2 a0 a1 b0 b1 = true:=by
 unfold same2
 rw [h0,h1]
 simp
/-- The corners of a valid polygon are different. -/
theorem corners_differ {p : List S78} (hV : Valid p) : ∀ i j,i < j → j < p.length → ¬ ((p.getD i z78).f0 = (p.getD j z78).f0 ∧ (p.getD i z78).f1 = (p.getD j z78).f1):=by
 intro i j hij hj ⟨h0,h1⟩
 obtain ⟨h3,hn,hall,hgood,_⟩:=hV
 have hr:=inR_of_all hall
 by_cases e : j = i + 1
 ·have hb:=(hgood i (by omega)).1
  unfold badAt at hb
  dsimp only at hb
  rw [Nat.mod_eq_of_lt (show i + 1 < p.length by omega)] at hb
  subst e
  rw [same2_true h0 h1] at hb
  cases hb
 ·by_cases e2 : (j + 1) % p.length = i
  ·have hb:=(hgood j hj).1
   unfold badAt at hb
   dsimp only at hb
   rw [e2,same2_true h0.symm h1.symm] at hb
   cases hb
  ·have hm:=(hgood i (by omega)).2 j (by omega) hj e2
   unfold meets touchW at hm
   dsimp only at hm
   obtain ⟨a1,a2,a3,a4⟩:=hr i
   obtain ⟨b1,b2,b3,b4⟩:=hr ((i + 1) % p.length)
   have ho:=onW_start (p.getD i z78).f0 (p.getD i z78).f1 (p.getD ((i + 1) % p.length) z78).f0 (p.getD ((i + 1) % p.length) z78).f1 ⟨a1,a2,a3,a4⟩ ⟨b1,b2,b3,b4⟩
   rw [← h0,← h1,ho] at hm
   simp at hm

theorem rdL_nat (x : List (List Int)) (j : Nat) : rd_L3 x (j : Int) = x.getD j []:=by
 unfold rd_L3
 rw [Int.toNat_natCast]
theorem getN_set_self (x : List (List Int)) (i : Nat) (v : List Int) (h : i < x.length) : (x.set i v).getD i [] = v:=by
 rw [List.getD_eq_getElem?_getD,List.getElem?_set_self h]
 rfl
theorem getN_set_ne (x : List (List Int)) (i j : Nat) (v : List Int) (h : i ≠ j) : (x.set i v).getD j [] = x.getD j []:=by
 rw [List.getD_eq_getElem?_getD,List.getElem?_set_ne h,List.getD_eq_getElem?_getD]
/-- All rows are short. -/
def ShortN (x : List (List Int)) : Prop:=∀ i,i < x.length → (x.getD i []).length ≤ 1000
theorem eqInt64SS_loop (x : List (List Int)) (hn : x.length ≤ 1000000) (hs : ShortN x) : ∀ (d k i : Nat),x.length - i ≤ d → d + 1001 < k → laws_eqInt64SS.l0 k x x i = some true
 | d,0,i,_,h => absurd h (by omega)
 | 0,k + 1,i,hi,_ => by
  simp only [laws_eqInt64SS.l0]
  rw [if_neg (by omega)]
 | d + 1,k + 1,i,hi,h => by
  simp only [laws_eqInt64SS.l0]
  by_cases c : i < x.length
  ·rw [if_pos (by omega),if_pos (by omega),if_pos (by omega),rdL_nat,eqInt64S_self _ (by have:=hs i c;omega) k (by have:=hs i c;omega),Option.bind_some,if_pos rfl,w1' (by omega)]
   exact eqInt64SS_loop x hn hs d k (i + 1) (by omega) (by omega)
  ·rw [if_neg (by omega)]
theorem eqInt64SS_self (x : List (List Int)) (hn : x.length ≤ 1000000) (hs : ShortN x) (k : Nat) (hk : x.length + 1001 < k) : laws_eqInt64SS.f k x x = some true:=by
 unfold laws_eqInt64SS.f
 rw [if_pos rfl]
 exact eqInt64SS_loop x hn hs x.length k 0 (by omega) hk
theorem nmark_loop (N : Nat) (hN : N ≤ 1000000) : ∀ (d i : Nat) (x : List (List Int)) (a : Int),x.length = N → i ≤ N → N - i ≤ d → ShortN x → 0 ≤ a → a ≤ 1000 * i + 1 → ∃ (n : Int) (m : List (List Int)),m.length = N ∧ (∀ j,j < i → m.getD j [] = x.getD j []) ∧ a ≤ n ∧
  (∀ k,d + 1001 < k → laws_markInt64SS.l0 k x a i = some (n,m)) ∧ (∀ k,d + 1001 < k → laws_heldInt64SS.l0 k m a i = some n):=by
 intro d
 induction d with
 | zero =>
  intro i x a hx hi hd hs h0 h1
  refine ⟨a,x,hx,fun _ _ => rfl,Int.le_refl _,fun k hk => ?_,fun k hk => ?_⟩
  ·obtain ⟨k,rfl⟩ : ∃ q,k = q + 1:=⟨k - 1,by omega⟩
   simp only [laws_markInt64SS.l0]
   rw [if_neg (by omega)]
  ·obtain ⟨k,rfl⟩ : ∃ q,k = q + 1:=⟨k - 1,by omega⟩
   simp only [laws_heldInt64SS.l0]
   rw [if_neg (by omega)]
 | succ d ih =>
  intro i x a hx hi hd hs h0 h1
  by_cases c : i < N
  ·have hl:=hs i (by omega)
   obtain ⟨mi,e0,e1,e2⟩:=imark_held_at (x.getD i []) (by omega) a (by omega)
   have hs' : ShortN (x.set i mi):=by
    intro j hj
    rw [List.length_set] at hj
    by_cases q : i = j
    ·subst q
     rw [getN_set_self _ _ _ hj]
     omega
    ·rw [getN_set_ne _ _ _ _ q]
     exact hs j hj
   obtain ⟨n,m,g1,g2,g3,g4,g5⟩:=ih (i + 1) (x.set i mi) (a + (x.getD i []).length) (by rw [List.length_set];exact hx) (by omega) (by omega) hs' (by omega) (by omega)
   have gi : m.getD i [] = mi:=by rw [g2 i (by omega),getN_set_self _ _ _ (by omega)]
   refine ⟨n,m,g1,fun j hj => ?_,by omega,fun k hk => ?_,fun k hk => ?_⟩
   ·rw [g2 j (by omega),getN_set_ne _ _ _ _ (by omega)]
   ·obtain ⟨k,rfl⟩ : ∃ q,k = q + 1:=⟨k - 1,by omega⟩
    simp only [laws_markInt64SS.l0]
    rw [if_pos (by omega),if_pos (by omega),Int.toNat_natCast,e1 k (by omega),Option.bind_some,w1' (by omega)]
    exact g4 k (by omega)
   ·obtain ⟨k,rfl⟩ : ∃ q,k = q + 1:=⟨k - 1,by omega⟩
    simp only [laws_heldInt64SS.l0]
    rw [if_pos (by omega),if_pos (by omega),rdL_nat,gi,e2 k (by omega),Option.bind_some,if_neg (by omega),w1' (by omega)]
    exact g5 k (by omega)
  ·refine ⟨a,x,hx,fun _ _ => rfl,Int.le_refl _,fun k hk => ?_,fun k hk => ?_⟩
   ·obtain ⟨k,rfl⟩ : ∃ q,k = q + 1:=⟨k - 1,by omega⟩
    simp only [laws_markInt64SS.l0]
    rw [if_neg (by omega)]
   ·obtain ⟨k,rfl⟩ : ∃ q,k = q + 1:=⟨k - 1,by omega⟩
    simp only [laws_heldInt64SS.l0]
    rw [if_neg (by omega)]
theorem nmark_held (x : List (List Int)) (hn : x.length ≤ 1000000) (hs : ShortN x) : ∃ (n : Int) (m : List (List Int)),0 < n ∧ (∀ k,x.length + 1001 < k → laws_markInt64SS.f k x 1 = some (n,m)) ∧ (∀ k,x.length + 1001 < k → laws_heldInt64SS.f k m 1 = some n):=by
 obtain ⟨n,m,g1,_,g3,g4,g5⟩:=nmark_loop x.length hn x.length 0 x 1 rfl (by omega) (by omega) hs (by omega) (by omega)
 refine ⟨n,m,by omega,fun k hk => ?_,fun k hk => ?_⟩
 ·unfold laws_markInt64SS.f
  exact g4 k hk
 ·unfold laws_heldInt64SS.f
  exact g5 k hk

def onFrom (fs : List S64) (a b : Int) : Nat → Nat → List Int
 | 0,_ => []
 | d + 1,i => (if onB (fs.getD i z64).f1 a b = true then [(i : Int)] else []) ++ onFrom fs a b d (i + 1)
theorem onFrom_pos (fs : List S64) (a b : Int) : ∀ d i,0 < (onFrom fs a b d i).length ↔ ∃ j,i ≤ j ∧ j < i + d ∧ onB (fs.getD j z64).f1 a b = true
 | 0,i => by
  constructor
  ·intro h
   exact absurd h (by simp [onFrom])
  ·rintro ⟨j,h1,h2,_⟩
   omega
 | d + 1,i => by
  have ih:=onFrom_pos fs a b d (i + 1)
  unfold onFrom
  rw [List.length_append]
  cases c : onB (fs.getD i z64).f1 a b with
  | true =>
   rw [if_pos rfl]
   constructor
   ·intro _
    exact ⟨i,Nat.le_refl _,by omega,c⟩
   ·intro _
    simp
    omega
  | false =>
   rw [if_neg (by decide)]
   constructor
   ·intro h
    obtain ⟨j,h1,h2,h3⟩:=ih.1 (by simpa using h)
    exact ⟨j,by omega,by omega,h3⟩
   ·rintro ⟨j,h1,h2,h3⟩
    have : j ≠ i:=by
     rintro rfl
     rw [c] at h3
     cases h3
    have:=ih.2 ⟨j,by omega,by omega,h3⟩
    simpa using this
theorem spec_on_loop (w h : Int) (pts : List S78) (fs : List S64) (hf : fs.length ≤ 1048576) (hs : ShortP fs) (a b : Int) : ∀ (d k i : Nat) (out : List Int),fs.length - i = d → d + 1048577 < k → out.length ≤ i →
  spec_l05OnEdge.l0 k a b out i w h pts fs = some (out ++ onFrom fs a b d i,w,h)
 | d,0,i,out,_,h2,_ => absurd h2 (by omega)
 | 0,k + 1,i,out,h1,h2,ho => by
  simp only [spec_l05OnEdge.l0]
  rw [if_neg (by omega)]
  unfold onFrom
  rw [List.append_nil]
 | d + 1,k + 1,i,out,h1,h2,ho => by
  simp only [spec_l05OnEdge.l0]
  have hi : i < fs.length:=by omega
  rw [if_pos (by omega),if_pos (by omega),rdF_nat,spec_has_eq _ (hs i hi).2 a b k (by have:=(hs i hi).2;omega),Option.bind_some,w1 (by omega)]
  unfold onFrom
  cases onB (fs.getD i z64).f1 a b with
  | true =>
   rw [if_pos rfl,if_pos rfl,if_pos (by omega),spec_on_loop w h pts fs hf hs a b d k (i + 1) _ (by omega) (by omega) (by rw [List.length_append];simp;omega),List.append_assoc]
  | false =>
   rw [if_neg (by decide),if_neg (by decide),spec_on_loop w h pts fs hf hs a b d k (i + 1) _ (by omega) (by omega) (by omega),List.nil_append]
def edgeB (fs : List S64) (a b : Int) : Bool:=decide (0 < (onFrom fs a b fs.length 0).length)
def rowOf (e : S67) : List Int:=[e.f0,e.f1]
def rowFrom (fs : List S64) (i : Nat) : Nat → Nat → List S67
 | 0,_ => []
 | d + 1,j => (if edgeB fs i j = true then [(⟨i,j⟩ : S67)] else []) ++ rowFrom fs i d (j + 1)
def allFrom (fs : List S64) (n : Nat) : Nat → Nat → List S67
 | 0,_ => []
 | d + 1,i => rowFrom fs i (n - (i + 1)) (i + 1) ++ allFrom fs n d (i + 1)
theorem rowFrom_length (fs : List S64) (i : Nat) : ∀ d j,(rowFrom fs i d j).length ≤ d
 | 0,_ => Nat.le_refl _
 | d + 1,j => by
  have:=rowFrom_length fs i d (j + 1)
  unfold rowFrom
  rw [List.length_append]
  split <;> simp <;> omega
theorem allFrom_length (fs : List S64) (n : Nat) : ∀ d i,(allFrom fs n d i).length ≤ d * n
 | 0,_ => by simp [allFrom]
 | d + 1,i => by
  have h1:=allFrom_length fs n d (i + 1)
  have h2:=rowFrom_length fs i (n - (i + 1)) (i + 1)
  unfold allFrom
  rw [List.length_append,Nat.add_mul]
  omega
theorem spec_row_loop (w h : Int) (pts : List S78) (fs : List S64) (hp : pts.length ≤ 48) (hf : fs.length ≤ 24) (hs : ShortP fs) (i : Nat) (hi : i < pts.length) (K : Nat) (hK : 1048700 ≤ K) (R : List (List Int) × Int) : ∀ (d k j : Nat) (out : List (List Int)),pts.length - j = d → K + d < k → out.length + d ≤ 1000000 →
  (∀ k,K ≤ k → spec_EdgesOf.l0 k (out ++ (rowFrom fs i d j).map rowOf) (pts.length : Int) (wrap64 ((i : Int) + 1)) w h pts fs = some R) → spec_EdgesOf.l1 k out (pts.length : Int) i j w h pts fs = some R
 | d,0,j,out,_,h2,_,_ => absurd h2 (by omega)
 | 0,k + 1,j,out,h1,h2,h3,hR => by
  simp only [spec_EdgesOf.l1]
  rw [if_neg (by omega)]
  have:=hR k (by omega)
  simp only [rowFrom,List.map_nil,List.append_nil] at this
  exact this
 | d + 1,k + 1,j,out,h1,h2,h3,hR => by
  have hon:=spec_on_loop w h pts fs (by omega) hs i j fs.length k 0 [] (by omega) (by omega) (Nat.le_refl _)
  simp only [Int.natCast_zero,List.nil_append] at hon
  simp only [spec_EdgesOf.l1,spec_l05OnEdge.f]
  rw [if_pos (by omega),hon,Option.bind_some]
  dsimp only
  rw [w1 (by omega)]
  unfold rowFrom edgeB at hR
  by_cases c : 0 < (onFrom fs i j fs.length 0).length
  ·rw [if_pos (by omega),if_pos (by omega)]
   rw [if_pos (decide_eq_true c)] at hR
   exact spec_row_loop w h pts fs hp hf hs i hi K hK R d k (j + 1) _ (by omega) (by omega) (by rw [List.length_append];simp;omega) (fun k hk => by
    have:=hR k hk
    rw [List.map_append,← List.append_assoc] at this
    exact this)
  ·rw [if_neg (by omega)]
   rw [if_neg (by rw [decide_eq_false c];decide)] at hR
   exact spec_row_loop w h pts fs hp hf hs i hi K hK R d k (j + 1) out (by omega) (by omega) (by omega) hR
theorem spec_all_loop (w h : Int) (pts : List S78) (fs : List S64) (hp : pts.length ≤ 48) (hf : fs.length ≤ 24) (hs : ShortP fs) : ∀ (d k i : Nat) (out : List (List Int)),pts.length - i = d → 1048710 + 60 * d ≤ k → out.length + d * 48 ≤ 100000 →
  spec_EdgesOf.l0 k out (pts.length : Int) i w h pts fs = some (out ++ (allFrom fs pts.length d i).map rowOf,0)
 | d,0,i,out,_,h2,_ => absurd h2 (by omega)
 | 0,k + 1,i,out,h1,h2,h3 => by
  simp only [spec_EdgesOf.l0]
  rw [if_neg (by omega)]
  simp only [allFrom,List.map_nil,List.append_nil]
 | d + 1,k + 1,i,out,h1,h2,h3 => by
  simp only [spec_EdgesOf.l0]
  have hl:=rowFrom_length fs i (pts.length - (i + 1)) (i + 1)
  rw [if_pos (by omega),w1 (by omega)]
  refine spec_row_loop w h pts fs hp hf hs i (by omega) (1048710 + 60 * d) (by omega) _ (pts.length - (i + 1)) k (i + 1) out rfl (by omega) (by omega) (fun k hk => ?_)
  rw [w1 (by omega),spec_all_loop w h pts fs hp hf hs d k (i + 1) _ (by omega) (by omega) (by rw [List.length_append,List.length_map];omega)]
  simp only [allFrom,List.map_append,List.append_assoc]
def allE (fs : List S64) : Nat → Nat → List S67
 | 0,_ => []
 | d + 1,i => pairs (fs.getD i z64).f1 ++ allE fs d (i + 1)
theorem impl_all_loop (fs : List S64) (hf : fs.length ≤ 24) (hr : ∀ i,i < fs.length → (fs.getD i z64).f1.length ≤ 24) (K : Nat) (hK : 100 ≤ K) (R : List (List Int) × Int) : ∀ (d k i : Nat) (out : List S67),fs.length - i = d → K + d < k → out.length + d * 24 ≤ 1000000 →
  (∀ k,K ≤ k → ((slices_SortFunc_2_int64_2_int64.f (out ++ allE fs d i) ()).bind fun t => impl_EdgesOf.l1 k t ([] : List (List Int)) t ((out ++ allE fs d i).length : Int) 0) = some R) → impl_EdgesOf.l0 k out fs (fs.length : Int) i = some R
 | d,0,i,out,_,h2,_,_ => absurd h2 (by omega)
 | 0,k + 1,i,out,h1,h2,h3,hR => by
  simp only [impl_EdgesOf.l0]
  rw [if_neg (by omega)]
  have:=hR k (by omega)
  simp only [allE,List.append_nil] at this
  exact this
 | d + 1,k + 1,i,out,h1,h2,h3,hR => by
  simp only [impl_EdgesOf.l0]
  have hi : i < fs.length:=by omega
  have hl:=hr i hi
  rw [if_pos (by omega),if_pos (by omega),if_pos (by omega),rdF_nat,impl_edges_eq _ (by omega) k (by omega),Option.bind_some,if_pos (by rw [pairs_length];omega),w1 (by omega)]
  refine impl_all_loop fs hf hr K hK R d k (i + 1) _ (by omega) (by omega) (by rw [List.length_append,pairs_length];omega) (fun k hk => ?_)
  have:=hR k hk
  simp only [allE,← List.append_assoc] at this
  exact this
def dd : Option S67 → List S67 → List S67
 | _,[] => []
 | none,e :: r => e :: dd (some e) r
 | some p,e :: r => if (!(e.f0 == p.f0) || !(e.f1 == p.f1)) = true then e :: dd (some e) r else dd (some e) r
theorem dd_length : ∀ (l : List S67) (p : Option S67),(dd p l).length ≤ l.length
 | [],p => by cases p <;> simp [dd]
 | e :: r,none => by
  have:=dd_length r (some e)
  simp only [dd,List.length_cons]
  omega
 | e :: r,some p => by
  have:=dd_length r (some e)
  simp only [dd,List.length_cons]
  split
  ·rw [List.length_cons]
   omega
  ·omega
theorem wm1 {i : Nat} (h0 : 0 < i) (h1 : i ≤ 1000000) : wrap64 ((i : Int) - 1) = ((i - 1 : Nat) : Int):=by
 rw [w64 (by omega) (by omega)]
 omega
theorem impl_dd_loop (s : List S67) (hs : s.length ≤ 1000000) : ∀ (d k i : Nat) (out : List (List Int)),s.length - i = d → d < k → out.length ≤ i → impl_EdgesOf.l1 k s out s (s.length : Int) i = some (out ++ (dd (if i = 0 then none else some (s.getD (i - 1) z67)) (s.drop i)).map rowOf,0)
 | d,0,i,out,_,h2,_ => absurd h2 (by omega)
 | 0,k + 1,i,out,h1,h2,h3 => by
  simp only [impl_EdgesOf.l1]
  rw [if_neg (by omega),List.drop_eq_nil_of_le (by omega)]
  cases (if i = 0 then none else some (s.getD (i - 1) z67) : Option S67) <;> simp [dd]
 | d + 1,k + 1,i,out,h1,h2,h3 => by
  simp only [impl_EdgesOf.l1]
  have hi : i < s.length:=by omega
  have e : s.getD i z67 = s[i]:=by
   rw [List.getD_eq_getElem?_getD,List.getElem?_eq_getElem hi]
   rfl
  have nx:=fun o (ho : o.length ≤ i + 1) => impl_dd_loop s hs d k (i + 1) o (by omega) (by omega) ho
  simp only [Nat.succ_ne_zero,if_false,Nat.add_sub_cancel] at nx
  rw [if_pos (by omega),if_pos (by omega),if_pos (by omega),w1 (by omega),List.drop_eq_getElem_cons hi,rdE_nat,e]
  by_cases c : i = 0
  ·rw [if_pos (by omega),if_pos (by omega),if_pos c,nx _ (by rw [List.length_append];simp;omega),e]
   simp only [dd,List.map_cons,List.append_assoc,List.singleton_append]
   rfl
  ·rw [if_neg (by omega),wm1 (by omega) (by omega),if_pos (by omega),if_pos (by omega),rdE_nat,if_neg c]
   simp only [dd]
   split
   ·rw [if_pos (by omega),nx _ (by rw [List.length_append];simp;omega),e]
    simp only [List.map_cons,List.append_assoc,List.singleton_append]
    rfl
   ·rw [nx _ (by omega),e]
def ltE (x y : S67) : Prop:=x.f0 < y.f0 ∨ x.f0 = y.f0 ∧ x.f1 < y.f1
theorem e2_ext {x y : S67} (h0 : x.f0 = y.f0) (h1 : x.f1 = y.f1) : x = y:=by
 cases x;cases y
 simp only at h0 h1
 subst h0 h1
 rfl
theorem sorted_ext : ∀ l1 l2 : List S67,l1.Pairwise ltE → l2.Pairwise ltE → (∀ x,x ∈ l1 ↔ x ∈ l2) → l1 = l2
 | [],[],_,_,_ => rfl
 | [],b :: tb,_,_,h => absurd ((h b).2 List.mem_cons_self) (by simp)
 | a :: ta,[],_,_,h => absurd ((h a).1 List.mem_cons_self) (by simp)
 | a :: ta,b :: tb,h1,h2,h => by
  rw [List.pairwise_cons] at h1 h2
  have hab : a = b:=by
   rcases List.mem_cons.1 ((h a).1 List.mem_cons_self) with e | e
   ·exact e
   ·rcases List.mem_cons.1 ((h b).2 List.mem_cons_self) with e' | e'
    ·exact e'.symm
    ·have q1:=h2.1 a e
     have q2:=h1.1 b e'
     unfold ltE at q1 q2
     omega
  subst hab
  rw [sorted_ext ta tb h1.2 h2.2 (fun x => ?_)]
  constructor
  ·intro hx
   rcases List.mem_cons.1 ((h x).1 (List.mem_cons_of_mem _ hx)) with e | e
   ·subst e
    have:=h1.1 x hx
    unfold ltE at this
    omega
   ·exact e
  ·intro hx
   rcases List.mem_cons.1 ((h x).2 (List.mem_cons_of_mem _ hx)) with e | e
   ·subst e
    have:=h2.1 x hx
    unfold ltE at this
    omega
   ·exact e
theorem dd_some : ∀ (l : List S67) (p : S67),(∀ x ∈ l,¬ ltE x p) → l.Pairwise (fun x y => ¬ ltE y x) → (dd (some p) l).Pairwise ltE ∧ (∀ x ∈ dd (some p) l,ltE p x) ∧ ∀ x,x = p ∨ x ∈ dd (some p) l ↔ x = p ∨ x ∈ l
 | [],p,_,_ => ⟨by simp [dd],by simp [dd],fun x => by simp [dd]⟩
 | e :: r,p,h1,h2 => by
  rw [List.pairwise_cons] at h2
  obtain ⟨g1,g2,g3⟩:=dd_some r e h2.1 h2.2
  have he:=h1 e List.mem_cons_self
  simp only [dd]
  split
  ·rename_i c
   have hlt : ltE p e:=by
    unfold ltE at he ⊢
    simp only [Bool.or_eq_true,Bool.not_eq_true',beq_eq_false_iff_ne,ne_eq] at c
    omega
   refine ⟨List.pairwise_cons.2 ⟨g2,g1⟩,fun x hx => ?_,fun x => ?_⟩
   ·rcases List.mem_cons.1 hx with rfl | hx
    ·exact hlt
    ·have:=g2 x hx
     unfold ltE at hlt this ⊢
     omega
   ·have:=g3 x
    rw [List.mem_cons,List.mem_cons,this]
  ·rename_i c
   have hep : e = p:=by
    simp only [Bool.or_eq_true,Bool.not_eq_true',beq_eq_false_iff_ne,ne_eq] at c
    exact e2_ext (by omega) (by omega)
   subst hep
   refine ⟨g1,g2,fun x => ?_⟩
   have:=g3 x
   rw [List.mem_cons,this]
   constructor
   ·rintro (h | h)
    ·exact .inl h
    ·exact .inr (.inr h)
   ·rintro (h | h | h)
    ·exact .inl h
    ·exact .inl h
    ·exact .inr h
theorem dd_none (l : List S67) (h : l.Pairwise (fun x y => ¬ ltE y x)) : (dd none l).Pairwise ltE ∧ ∀ x,x ∈ dd none l ↔ x ∈ l:=by
 cases l with
 | nil => exact ⟨by simp [dd],fun x => by simp [dd]⟩
 | cons e r =>
  rw [List.pairwise_cons] at h
  obtain ⟨g1,g2,g3⟩:=dd_some r e h.1 h.2
  simp only [dd]
  exact ⟨List.pairwise_cons.2 ⟨g2,g1⟩,fun x => by rw [List.mem_cons,List.mem_cons,g3 x]⟩
theorem rowFrom_mem (fs : List S64) (i : Nat) (x : S67) : ∀ d j,x ∈ rowFrom fs i d j ↔ ∃ t : Nat,j ≤ t ∧ t < j + d ∧ x = ⟨i,t⟩ ∧ edgeB fs i t = true
 | 0,j => by
  constructor
  ·intro h
   exact absurd h (by simp [rowFrom])
  ·rintro ⟨t,h1,h2,_⟩
   omega
 | d + 1,j => by
  have ih:=rowFrom_mem fs i x d (j + 1)
  unfold rowFrom
  rw [List.mem_append,ih]
  constructor
  ·rintro (h | ⟨t,h1,h2,h3⟩)
   ·split at h
    ·rename_i c
     exact ⟨j,Nat.le_refl _,by omega,List.mem_singleton.1 h,c⟩
    ·exact absurd h (by simp)
   ·exact ⟨t,by omega,by omega,h3⟩
  ·rintro ⟨t,h1,h2,h3,h4⟩
   by_cases e : t = j
   ·subst e
    left
    rw [if_pos h4,h3]
    exact List.mem_singleton.2 rfl
   ·exact .inr ⟨t,by omega,by omega,h3,h4⟩
theorem rowFrom_sorted (fs : List S64) (i : Nat) : ∀ d j,(rowFrom fs i d j).Pairwise ltE
 | 0,j => by simp [rowFrom]
 | d + 1,j => by
  have ih:=rowFrom_sorted fs i d (j + 1)
  unfold rowFrom
  split
  ·refine List.pairwise_cons.2 ⟨fun x hx => ?_,ih⟩
   obtain ⟨t,h1,h2,h3,_⟩:=(rowFrom_mem fs i x d (j + 1)).1 hx
   subst h3
   exact Or.inr ⟨rfl,(by omega : (j : Int) < (t : Int))⟩
  ·exact ih
theorem allFrom_mem (fs : List S64) (n : Nat) (x : S67) : ∀ d i,i + d ≤ n → (x ∈ allFrom fs n d i ↔ ∃ a b : Nat,i ≤ a ∧ a < i + d ∧ a < b ∧ b < n ∧ x = ⟨a,b⟩ ∧ edgeB fs a b = true)
 | 0,i,_ => by
  constructor
  ·intro h
   exact absurd h (by simp [allFrom])
  ·rintro ⟨a,b,h1,h2,_⟩
   omega
 | d + 1,i,hn => by
  have ih:=allFrom_mem fs n x d (i + 1) (by omega)
  unfold allFrom
  rw [List.mem_append,ih,rowFrom_mem]
  constructor
  ·rintro (⟨t,h1,h2,h3,h4⟩ | ⟨a,b,h1,h2,h3⟩)
   ·exact ⟨i,t,Nat.le_refl _,by omega,by omega,by omega,h3,h4⟩
   ·exact ⟨a,b,by omega,by omega,h3⟩
  ·rintro ⟨a,b,h1,h2,h3,h4,h5,h6⟩
   by_cases e : a = i
   ·subst e
    exact .inl ⟨b,by omega,by omega,h5,h6⟩
   ·exact .inr ⟨a,b,by omega,by omega,h3,h4,h5,h6⟩
theorem allFrom_sorted (fs : List S64) (n : Nat) : ∀ d i,i + d ≤ n → (allFrom fs n d i).Pairwise ltE
 | 0,i,_ => by simp [allFrom]
 | d + 1,i,hn => by
  have ih:=allFrom_sorted fs n d (i + 1) (by omega)
  unfold allFrom
  refine List.pairwise_append.2 ⟨rowFrom_sorted _ _ _ _,ih,fun x hx y hy => ?_⟩
  obtain ⟨t,_,_,h3,_⟩:=(rowFrom_mem fs i x _ _).1 hx
  obtain ⟨a,b,g1,_,_,_,g5,_⟩:=(allFrom_mem fs n y d (i + 1) (by omega)).1 hy
  subst h3 g5
  unfold ltE
  simp only
  omega
theorem allE_mem (fs : List S64) (x : S67) : ∀ d i,x ∈ allE fs d i ↔ ∃ j,i ≤ j ∧ j < i + d ∧ x ∈ pairs (fs.getD j z64).f1
 | 0,i => by
  constructor
  ·intro h
   exact absurd h (by simp [allE])
  ·rintro ⟨t,h1,h2,_⟩
   omega
 | d + 1,i => by
  have ih:=allE_mem fs x d (i + 1)
  unfold allE
  rw [List.mem_append,ih]
  constructor
  ·rintro (h | ⟨j,h1,h2,h3⟩)
   ·exact ⟨i,Nat.le_refl _,by omega,h⟩
   ·exact ⟨j,by omega,by omega,h3⟩
  ·rintro ⟨j,h1,h2,h3⟩
   by_cases e : j = i
   ·subst e
    exact .inl h3
   ·exact .inr ⟨j,by omega,by omega,h3⟩
theorem allE_length (fs : List S64) (hr : ∀ i,i < fs.length → (fs.getD i z64).f1.length ≤ 24) : ∀ d i,i + d ≤ fs.length → (allE fs d i).length ≤ d * 24
 | 0,i,_ => by simp [allE]
 | d + 1,i,h => by
  have:=allE_length fs hr d (i + 1) (by omega)
  have:=hr i (by omega)
  unfold allE
  rw [List.length_append,pairs_length]
  omega
theorem onB_iff (r : List Int) (a b : Nat) (h : a < b) : onB r a b = true ↔ (⟨a,b⟩ : S67) ∈ pairs r:=by
 unfold onB
 rw [List.any_eq_true]
 have e1 : mn (a : Int) (b : Int) = a:=by unfold mn;split <;> omega
 have e2 : mx (a : Int) (b : Int) = b:=by unfold mx;split <;> omega
 constructor
 ·rintro ⟨e,he,hq⟩
  simp only [Bool.and_eq_true,beq_iff_eq] at hq
  rw [e1,e2] at hq
  have : e = ⟨a,b⟩:=e2_ext hq.1.symm hq.2.symm
  rw [← this]
  exact he
 ·intro he
  exact ⟨_,he,by simp [e1,e2]⟩
theorem pairs_mem {pts : List S78} {r : List Int} (ho : ringOk pts r = true) (hV : Valid (ringP pts r)) {x : S67} (hx : x ∈ pairs r) : ∃ a b : Nat,a < b ∧ b < pts.length ∧ x = ⟨a,b⟩:=by
 have h3:=hV.1
 rw [ringP_length] at h3
 unfold pairs at hx
 rw [List.mem_map] at hx
 obtain ⟨i,hi,rfl⟩:=hx
 rw [List.mem_range] at hi
 have hj : (i + 1) % r.length < r.length:=Nat.mod_lt _ (by omega)
 have hne : i ≠ (i + 1) % r.length:=by
  rcases Nat.lt_or_ge (i + 1) r.length with c | c
  ·rw [Nat.mod_eq_of_lt c]
   omega
  ·have : i + 1 = r.length:=by omega
   rw [this,Nat.mod_self]
   omega
 have rng:=fun t (ht : t < r.length) => show 0 ≤ r.getD t 0 ∧ r.getD t 0 ≤ (pts.length : Int) - 1 by
  unfold ringOk at ho
  rw [List.all_eq_true] at ho
  have:=ho (r[t]) (List.getElem_mem ht)
  rw [getI r t ht]
  exact of_decide_eq_true this
 have gp:=fun t (ht : t < r.length) => show (ringP pts r).getD t z78 = rd_T78 pts (r.getD t 0) by
  unfold ringP
  rw [List.getD_eq_getElem?_getD,List.getElem?_map,List.getElem?_eq_getElem ht,getI r t ht]
  rfl
 have cd:=corners_differ hV
 have nq : r.getD i 0 ≠ r.getD ((i + 1) % r.length) 0:=by
  intro e
  rcases Nat.lt_or_gt_of_ne hne with c | c
  ·exact cd i _ c (by rw [ringP_length];exact hj) (by rw [gp i hi,gp _ hj,e];exact ⟨rfl,rfl⟩)
  ·exact cd _ i c (by rw [ringP_length];exact hi) (by rw [gp i hi,gp _ hj,e];exact ⟨rfl,rfl⟩)
 have r1:=rng i hi
 have r2:=rng _ hj
 generalize r.getD i 0 = u at *
 generalize r.getD ((i + 1) % r.length) 0 = v at *
 rcases Int.lt_or_gt_of_ne nq with c | c
 ·refine ⟨u.toNat,v.toNat,by omega,by omega,e2_ext ?_ ?_⟩
  ·show mn u v = ((u.toNat : Nat) : Int)
   unfold mn
   split <;> omega
  ·show mx u v = ((v.toNat : Nat) : Int)
   unfold mx
   split <;> omega
 ·refine ⟨v.toNat,u.toNat,by omega,by omega,e2_ext ?_ ?_⟩
  ·show mn u v = ((v.toNat : Nat) : Int)
   unfold mn
   split <;> omega
  ·show mx u v = ((u.toNat : Nat) : Int)
   unfold mx
   split <;> omega
theorem edges_same {w h : Int} {pts : List S78} {fs : List S64} (hd : drawB w h pts fs = true) (hs : ShortP fs) (s : List S67) (h1 : s.Pairwise (fun x y => ¬ ltE y x)) (h2 : ∀ x,x ∈ s ↔ x ∈ allE fs fs.length 0) : dd none s = allFrom fs pts.length pts.length 0:=by
 obtain ⟨g1,g2⟩:=dd_none s h1
 refine sorted_ext _ _ g1 (allFrom_sorted fs pts.length pts.length 0 (by omega)) (fun x => ?_)
 rw [g2,h2,allE_mem,allFrom_mem fs pts.length x pts.length 0 (by omega)]
 have eB : ∀ a b : Nat,a < b → (edgeB fs a b = true ↔ ∃ j,0 ≤ j ∧ j < 0 + fs.length ∧ (⟨a,b⟩ : S67) ∈ pairs (fs.getD j z64).f1):=fun a b hab => by
  unfold edgeB
  rw [decide_eq_true_eq,onFrom_pos]
  constructor
  ·rintro ⟨j,q1,q2,q3⟩
   exact ⟨j,q1,q2,(onB_iff _ a b hab).1 q3⟩
  ·rintro ⟨j,q1,q2,q3⟩
   exact ⟨j,q1,q2,(onB_iff _ a b hab).2 q3⟩
 constructor
 ·rintro ⟨j,q1,q2,q3⟩
  obtain ⟨a,b,hab,hb,rfl⟩:=pairs_mem (drawB_face hd j (by omega)).1 (drawB_valid hd hs j (by omega)) q3
  exact ⟨a,b,by omega,by omega,hab,hb,rfl,(eB a b hab).2 ⟨j,q1,q2,q3⟩⟩
 ·rintro ⟨a,b,_,_,hab,_,rfl,q⟩
  exact (eB a b hab).1 q
theorem sort_same (l : List S67) (hl : l.length < 4611686018427387904) : ∃ s,slices_SortFunc_2_int64_2_int64.f l () = some s ∧ s.length = l.length ∧ s.Pairwise (fun x y => ¬ ltE y x) ∧ ∀ x,x ∈ s ↔ x ∈ l:=by
 have e : ∀ x y : S67,0 ≤ slices_SortFunc_2_int64_2_int64.cf y x ↔ ¬ ltE y x:=fun x y => by
  unfold slices_SortFunc_2_int64_2_int64.cf ltE
  repeat' split
  all_goals omega
 refine ⟨_,by unfold slices_SortFunc_2_int64_2_int64.f;rw [if_pos hl],List.length_mergeSort _,?_,fun x => List.mem_mergeSort⟩
 have:=List.pairwise_mergeSort (le:=fun x y => decide (0 ≤ slices_SortFunc_2_int64_2_int64.cf y x)) (fun a b c h1 h2 => by
  simp only [decide_eq_true_eq,e] at *
  unfold ltE at *
  omega) (fun a b => by
  simp only [Bool.or_eq_true,decide_eq_true_eq,e]
  unfold ltE
  omega) l
 exact this.imp (fun {x y} h => by
  rw [decide_eq_true_eq,e] at h
  exact h)
theorem edges_eq (w h : Int) (pts : List S78) (fs : List S64) (hp : pts.length ≤ 1048576) (hf : fs.length ≤ 1048576) (hs : ShortP fs) : ∃ r : List (List Int) × Int,r.1.length ≤ 10000 ∧ ShortN r.1 ∧ ∀ k,3160002 ≤ k → spec_EdgesOf.f k w h pts fs = some r ∧ impl_EdgesOf.f k w h pts fs = some r:=by
 cases hd : drawB w h pts fs with
 | false =>
  refine ⟨([],1),by simp,fun i hi => absurd hi (by simp),fun k hk => ⟨?_,?_⟩⟩
  ·unfold spec_EdgesOf.f
   rw [spec_draw_eq w h pts fs hp hf hs _ (by omega),Option.bind_some,hd]
   rfl
  ·unfold impl_EdgesOf.f
   rw [impl_draw_eq w h pts fs hp hf hs _ (by omega),Option.bind_some,hd]
   rfl
 | true =>
  have hd':=hd
  unfold drawB at hd'
  simp only [Bool.and_eq_true,decide_eq_true_eq] at hd'
  have p48:=hd'.1.2.1
  have f24:=hd'.1.2.2
  have hr : ∀ i,i < fs.length → (fs.getD i z64).f1.length ≤ 24:=fun i hi => by
   have:=(drawB_valid hd hs i hi).2.1
   rw [ringP_length] at this
   exact this
  have hl:=allE_length fs hr fs.length 0 (by omega)
  obtain ⟨s,s1,s2,s3,s4⟩:=sort_same (allE fs fs.length 0) (by omega)
  have hE:=edges_same hd hs s s3 s4
  have hA:=allFrom_length fs pts.length pts.length 0
  have hA2 : pts.length * pts.length ≤ 48 * 48:=Nat.mul_le_mul p48 p48
  refine ⟨((allFrom fs pts.length pts.length 0).map rowOf,0),by show (List.map rowOf _).length ≤ _;rw [List.length_map];omega,fun i hi => ?_,fun k hk => ⟨?_,?_⟩⟩
  ·have hi : i < ((allFrom fs pts.length pts.length 0).map rowOf).length:=hi
   show (((allFrom fs pts.length pts.length 0).map rowOf).getD i []).length ≤ 1000
   rw [List.length_map] at hi
   rw [List.getD_eq_getElem?_getD,List.getElem?_map,List.getElem?_eq_getElem hi]
   show 2 ≤ 1000
   omega
  ·unfold spec_EdgesOf.f
   rw [spec_draw_eq w h pts fs hp hf hs _ (by omega),Option.bind_some]
   dsimp only
   rw [hd,if_pos rfl]
   have:=spec_all_loop w h pts fs p48 f24 hs pts.length k 0 [] (by omega) (by omega) (by simp;omega)
   simp only [Int.natCast_zero,List.nil_append] at this
   exact this
  ·unfold impl_EdgesOf.f
   rw [impl_draw_eq w h pts fs hp hf hs _ (by omega),Option.bind_some,hd,if_pos rfl]
   have:=impl_all_loop fs f24 hr 2000 (by omega) ((allFrom fs pts.length pts.length 0).map rowOf,0) fs.length k 0 [] (by omega) (by omega) (by simp;omega) (fun k hk => by
    rw [List.nil_append,s1,Option.bind_some,← s2]
    have:=impl_dd_loop s (by omega) s.length k 0 [] (by omega) (by omega) (Nat.le_refl _)
    simp only [Int.natCast_zero,List.nil_append,List.drop_zero,if_pos] at this
    rw [this,hE])
   simp only [Int.natCast_zero] at this
   exact this
theorem FnExactEdgesOf (w h : Int) (pts : List S80) (fs : List S70) (_ : (Lit.int .i64 w).wf = true) (_ : (Lit.int .i64 h).wf = true) (hp : pts.length ≤ maxLen) (hpg : ∀ x ∈ pts,(Lit.int .i64 x.f0).wf = true ∧ (Lit.int .i64 x.f1).wf = true) (hf : fs.length ≤ maxLen) (hg : ∀ x ∈ fs,x.f0.size ≤ maxLen ∧ (x.f1.length ≤ maxLen ∧ ∀ y ∈ x.f1,(Lit.int .i64 y).wf = true)) : ∃ k,laws_FnExactEdgesOf.f k w h pts fs = some true:=by
 obtain ⟨B,hB⟩ : ∃ B : Nat,fs.length + 3170000 ≤ B:=⟨_,Nat.le_refl _⟩
 refine ⟨B + 3,?_⟩
 unfold laws_FnExactEdgesOf.f
 obtain ⟨r,e1,e2⟩:=szDrawing_eq w h pts fs hp hf hg (B + 3) (by omega)
 rw [e1,Option.bind_some]
 by_cases c : r < 0
 ·rw [if_pos c]
 ·rw [if_neg c]
  obtain ⟨h1,h2,h3⟩:=e2 (by omega)
  have td:=fun k (hk : 3000000 ≤ k) => toDrawing_eq w h pts fs h1 h2 h3 k hk
  have ed:=fun k (hk : 3000000 ≤ k) => eqDrawing_self w h pts fs h1 h2 h3 k hk
  obtain ⟨⟨g0,g1⟩,hr,hn,hk⟩:=edges_eq w h (conv pts) (convF fs) (by rw [conv_length];exact h1) (by rw [convF_length];exact h2) (ShortP_conv fs h3)
  have hr : g0.length ≤ 10000:=hr
  have hn : ShortN g0:=hn
  obtain ⟨m0,hm0,a1⟩:=mark_drawing w h (conv pts) (convF fs) (by rw [conv_length];exact h1) (by rw [convF_length];exact h2) (ShortP_conv fs h3)
  obtain ⟨n1,m1,hn1,b1,b2⟩:=nmark_held g0 (by omega) hn
  have e3:=fun k (hk : 1048577 < k) => eqInt64SS_self g0 (by omega) hn k (by omega)
  have b1':=fun k (hk : 1048577 < k) => b1 k (by omega)
  have b2':=fun k (hk : 1048577 < k) => b2 k (by omega)
  have q0 : ¬ m0 < 0:=by omega
  have q1 : ¬ n1 < 0:=by omega
  rw [td (B + 3) (by omega),Option.bind_some]
  dsimp only
  rw [(hk (B + 3) (by omega)).1,Option.bind_some,Option.bind_some]
  dsimp only
  rw [(hk (B + 3) (by omega)).2,Option.bind_some]
  dsimp only
  rw [e3 (B + 3) (by omega),Option.bind_some,if_pos rfl]
  simp only [laws_FnExactEdgesOf.j0,bne_self_eq_false,Bool.false_eq_true,if_false]
  rw [td (B + 2) (by omega),Option.bind_some]
  dsimp only
  rw [ed (B + 2) (by omega),Option.bind_some,if_pos rfl,a1 (B + 2) (by omega),Option.bind_some,if_neg q0,e3 (B + 2) (by omega),Option.bind_some,if_pos rfl]
  simp only [laws_FnExactEdgesOf.j1,bne_self_eq_false,Bool.false_eq_true,if_false]
  rw [b1' (B + 1) (by omega),Option.bind_some]
  dsimp only
  rw [b2' (B + 1) (by omega),Option.bind_some,if_neg q1,if_pos rfl,td (B + 1) (by omega),Option.bind_some]
  dsimp only
  rw [(hk (B + 1) (by omega)).2,Option.bind_some]
  dsimp only
  rw [e3 (B + 1) (by omega),Option.bind_some,if_pos rfl]
  simp only [laws_FnExactEdgesOf.j2,bne_self_eq_false,Bool.false_eq_true,if_false]
  rw [b2' B (by omega),Option.bind_some,if_neg q1,if_pos rfl]

end Go.Proofs.Ytpeebobdbaemiaa.Pure
