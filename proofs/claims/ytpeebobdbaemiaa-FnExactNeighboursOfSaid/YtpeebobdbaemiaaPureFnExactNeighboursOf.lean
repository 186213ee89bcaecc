/- The plain law: what FnExactNeighboursOf computes is true at every input. -/
import Derived.Test.YtpeebobdbaemiaaLFnExactNeighboursOfc
namespace Go.Proofs.Ytpeebobdbaemiaa.Pure
open Go.RowKit Go.Proofs.Ytpeebobdbaemiaa.PFnExactNeighboursOf Go.Proofs.YtpeebobdbaemiaaW.PrintWords Go.Proofs.YtpeebobdbaemiaaW.PrintLast Go.Proofs.YtpeebobdbaemiaaW.PrintMore
set_option linter.unusedVariables false
set_option linter.unusedSimpArgs false

theorem facesFrom_all (pts : List S78) (fs : List S64) : ∀ (d i : Nat),facesFrom pts fs d i = true → ∀ j,i ≤ j → j < i + d → faceGood pts fs j = true
 | 0,i,_,j,h1,h2 => absurd h2 (by omega)
 | d + 1,i,h,j,h1,h2 => by
  rw [facesFrom_succ,Bool.and_eq_true] at h
  by_cases e : j = i
  ·rw [e]
   exact h.1
  ·exact facesFrom_all pts fs d (i + 1) h.2 j (by omega) (by omega)
theorem drawB_face {w h : Int} {pts : List S78} {fs : List S64} (hd : drawB w h pts fs = true) (i : Nat) (hi : i < fs.length) : ringOk pts (fs.getD i z64).f1 = true ∧ validB (ringP pts (fs.getD i z64).f1) = true:=by
 unfold drawB at hd
 simp only [Bool.and_eq_true] at hd
 have:=facesFrom_all pts fs fs.length 0 hd.2.2 i (by omega) (by omega)
 rw [faceGood_eq] at this
 simp only [Bool.and_eq_true] at this
 exact this.2.2
theorem drawB_valid {w h : Int} {pts : List S78} {fs : List S64} (hd : drawB w h pts fs = true) (hs : ShortP fs) (i : Nat) (hi : i < fs.length) : Valid (ringP pts (fs.getD i z64).f1) :=
 ((validB_eq (ringP pts (fs.getD i z64).f1) (by rw [ringP_length];exact (hs i hi).2) 1000 (Nat.le_refl _)).2.2).1 (drawB_face hd i hi).2

theorem getI_set_self (x : List Int) (i : Nat) (v : Int) (h : i < x.length) : (x.set i v).getD i 0 = v:=by
 rw [List.getD_eq_getElem?_getD,List.getElem?_set_self h]
 rfl
theorem getI_set_ne (x : List Int) (i j : Nat) (v : Int) (h : i ≠ j) : (x.set i v).getD j 0 = x.getD j 0:=by
 rw [List.getD_eq_getElem?_getD,List.getElem?_set_ne h,List.getD_eq_getElem?_getD]
theorem imark_loop (n : Nat) (hn : n ≤ 1000000000) (a : Int) (ha : 0 ≤ a ∧ a ≤ 1000000000000000) : ∀ (d k i : Nat) (x : List Int),x.length = n → i ≤ n → n - i ≤ d → d < k → (∀ j,j < i → x.getD j 0 = a + j) →
  ∃ m : List Int,laws_markInt64S.l0 k x (a + i) i = some (a + (n : Int),m) ∧ m.length = n ∧ ∀ j,j < n → m.getD j 0 = a + j
 | d,0,i,x,_,_,_,h,_ => absurd h (by omega)
 | d,k + 1,i,x,hx,hi,h1,h2,hm => by
  simp only [laws_markInt64S.l0]
  by_cases hlt : i < n
  ·rw [if_pos (by omega),if_pos (by omega),Int.toNat_natCast,w1' (by omega),w64 (x:=a + (i : Int) + 1) (by omega) (by omega),show (a + (i : Int) + 1) = a + ((i + 1 : Nat) : Int) by omega]
   exact imark_loop n hn a ha (d - 1) k (i + 1) (x.set i (a + i)) (by simp [hx]) (by omega) (by omega) (by omega) (fun j hj => by
    by_cases e : i = j
    ·subst e
     rw [getI_set_self _ _ _ (by omega)]
    ·rw [getI_set_ne _ _ _ _ e]
     exact hm j (by omega))
  ·have e : i = n:=by omega
   subst e
   exact ⟨x,by rw [if_neg (by omega)],hx,hm⟩
theorem iheld_loop (n : Nat) (hn : n ≤ 1000000000) (a : Int) (ha : 0 ≤ a ∧ a ≤ 1000000000000000) (m : List Int) (hl : m.length = n) (hm : ∀ j,j < n → m.getD j 0 = a + j) : ∀ (d k i : Nat),i ≤ n → n - i ≤ d → d < k → laws_heldInt64S.l0 k m (a + i) i = some (a + n)
 | d,0,i,_,_,h => absurd h (by omega)
 | d,k + 1,i,hi,h1,h2 => by
  simp only [laws_heldInt64S.l0]
  by_cases hlt : i < n
  ·rw [if_pos (by omega),if_pos (by omega),rd_nat,hm i hlt,if_pos rfl,w1' (by omega),w64 (x:=a + (i : Int) + 1) (by omega) (by omega),show (a + (i : Int) + 1) = a + ((i + 1 : Nat) : Int) by omega]
   exact iheld_loop n hn a ha m hl hm (d - 1) k (i + 1) (by omega) (by omega) (by omega)
  ·rw [if_neg (by omega),show i = n by omega]
/-- What is marked is held. -/
theorem imark_held_at (x : List Int) (hn : x.length ≤ 1000000000) (a : Int) (ha : 0 ≤ a ∧ a ≤ 1000000000000000) : ∃ m : List Int,m.length = x.length ∧ (∀ k,x.length < k → laws_markInt64S.f k x a = some (a + x.length,m)) ∧ (∀ k,x.length < k → laws_heldInt64S.f k m a = some (a + x.length)):=by
 have h0:=fun k (hk : x.length < k) => imark_loop x.length hn a ha x.length k 0 x rfl (by omega) (by omega) hk (fun j hj => absurd hj (by omega))
 obtain ⟨m,h1,h2,h3⟩:=h0 (x.length + 1) (by omega)
 simp only [Int.natCast_zero,Int.add_zero] at h1
 refine ⟨m,h2,fun k hk => ?_,fun k hk => ?_⟩
 ·unfold laws_markInt64S.f
  exact at_rounds (fun k => laws_markInt64S.mono_l k _ _ _) (show x.length + 1 ≤ k by omega) h1
 ·unfold laws_heldInt64S.f
  have:=iheld_loop x.length hn a ha m h2 h3 x.length k 0 (by omega) (by omega) hk
  simp only [Int.natCast_zero,Int.add_zero] at this
  exact this
theorem imark_held (x : List Int) (hn : x.length ≤ 1000000000) : ∃ (n : Int) (m : List Int),0 < n ∧ (∀ k,x.length < k → laws_markInt64S.f k x 1 = some (n,m)) ∧ (∀ k,x.length < k → laws_heldInt64S.f k m 1 = some n):=by
 obtain ⟨m,_,h1,h2⟩:=imark_held_at x hn 1 (by omega)
 exact ⟨1 + x.length,m,by omega,h1,h2⟩

theorem rdE_nat (l : List S67) (j : Nat) : rd_T67 l (j : Int) = l.getD j z67:=by
 unfold rd_T67
 rw [Int.toNat_natCast]
/-- A ring's sides, each with its lesser end ahead. -/
def pairs (r : List Int) : List S67:=(List.range r.length).map fun i => ⟨mn (r.getD i 0) (r.getD ((i + 1) % r.length) 0),mx (r.getD i 0) (r.getD ((i + 1) % r.length) 0)⟩
theorem pairs_length (r : List Int) : (pairs r).length = r.length:=by
 unfold pairs
 rw [List.length_map,List.length_range]
theorem pairs_get (r : List Int) (i : Nat) (h : i < (pairs r).length) : (pairs r)[i] = ⟨mn (r.getD i 0) (r.getD ((i + 1) % r.length) 0),mx (r.getD i 0) (r.getD ((i + 1) % r.length) 0)⟩:=by
 simp [pairs]
def onB (r : List Int) (a b : Int) : Bool:=(pairs r).any fun e => mn a b == e.f0 && (mx a b == e.f1)
theorem two_ends (a b x y : Int) : (mn a b == mn x y && (mx a b == mx x y)) = decide ((x = a ∧ y = b) ∨ (x = b ∧ y = a)):=by
 rw [Bool.eq_iff_iff]
 simp only [Bool.and_eq_true,beq_iff_eq,decide_eq_true_eq]
 unfold mn mx
 by_cases c1 : b < a <;> by_cases c2 : y < x <;> by_cases c3 : a < b <;> by_cases c4 : x < y <;> simp only [c1,c2,c3,c4,if_true,if_false] <;> omega
theorem spec_has_loop (r : List Int) (hr : r.length ≤ 1048576) (a b : Int) : ∀ (d k i : Nat),r.length - i ≤ d → d < k → spec_l05HasEdge.l0 k r a b i = some (((pairs r).drop i).any fun e => mn a b == e.f0 && (mx a b == e.f1))
 | d,0,i,_,h2 => absurd h2 (by omega)
 | d,k + 1,i,h1,h2 => by
  simp only [spec_l05HasEdge.l0]
  by_cases c : i < r.length
  ·have hj : (i + 1) % r.length < r.length:=Nat.mod_lt _ (by omega)
   rw [if_pos (by omega),if_pos (by omega),if_neg (by omega),tm1 (by omega) c,w1 (by omega),if_pos (by omega),if_pos (by omega),rd_nat,rd_nat,spec_has_loop r hr a b (d - 1) k (i + 1) (by omega) (by omega),List.drop_eq_getElem_cons (i:=i) (by rw [pairs_length];exact c),List.any_cons,pairs_get]
   show _ = some ((mn a b == mn (r.getD i 0) (r.getD ((i + 1) % r.length) 0) && (mx a b == mx (r.getD i 0) (r.getD ((i + 1) % r.length) 0))) || _)
   rw [two_ends]
   generalize r.getD i 0 = x
   generalize r.getD ((i + 1) % r.length) 0 = y
   generalize (((pairs r).drop (i + 1)).any fun e => mn a b == e.f0 && (mx a b == e.f1)) = R
   clear hj
   repeat' split
   all_goals first
    | (rw [decide_eq_true (by omega)];rfl)
    | (rw [decide_eq_false (by omega)];rfl)
  ·rw [if_neg (by omega),List.drop_eq_nil_of_le (by rw [pairs_length];omega)]
   rfl
theorem spec_has_eq (r : List Int) (hr : r.length ≤ 1048576) (a b : Int) (k : Nat) (hk : r.length < k) : spec_l05HasEdge.f k r a b = some (onB r a b):=by
 unfold spec_l05HasEdge.f onB
 have:=spec_has_loop r hr a b r.length k 0 (by omega) hk
 rw [List.drop_zero] at this
 exact this
theorem impl_edges_loop (r : List Int) (hr : r.length ≤ 1048576) : ∀ (d k i : Nat) (out : List S67),r.length - i ≤ d → d < k → out.length ≤ i → impl_ringEdges.l0 k r out r (r.length : Int) i = some (out ++ (pairs r).drop i)
 | d,0,i,out,_,h2,_ => absurd h2 (by omega)
 | d,k + 1,i,out,h1,h2,ho => by
  simp only [impl_ringEdges.l0]
  by_cases c : i < r.length
  ·have hj : (i + 1) % r.length < r.length:=Nat.mod_lt _ (by omega)
   rw [if_pos (by omega),if_pos (by omega),if_pos (by omega),if_neg (by omega),tm1 (by omega) c,if_pos (by omega),if_pos (by omega),if_pos (by omega),rd_nat,rd_nat,w1 (by omega),impl_edges_loop r hr (d - 1) k (i + 1) _ (by omega) (by omega) (by rw [List.length_append];simp;omega),List.drop_eq_getElem_cons (i:=i) (by rw [pairs_length];exact c),pairs_get,List.append_assoc]
   rfl
  ·rw [if_neg (by omega),List.drop_eq_nil_of_le (by rw [pairs_length];omega),List.append_nil]
theorem edge_index_loop (l : List S67) (hl : l.length ≤ 1048576) (q0 q1 : Int) : ∀ (d k i : Nat),l.length - i ≤ d → d < k → ∃ r,slices_Index_2_int64_2_int64.l0 k l (l.length : Int) i q0 q1 = some r ∧ (decide (r ≥ 0) = ((l.drop i).any fun s => q0 == s.f0 && (q1 == s.f1)))
 | d,0,i,_,h2 => absurd h2 (by omega)
 | d,k + 1,i,h1,h2 => by
  simp only [slices_Index_2_int64_2_int64.l0]
  by_cases c : i < l.length
  ·rw [if_pos (by omega),if_pos (by omega),if_pos (by omega),w1 (by omega),rdE_nat,List.drop_eq_getElem_cons c,List.any_cons]
   have e : l.getD i z67 = l[i]:=by
    rw [List.getD_eq_getElem?_getD,List.getElem?_eq_getElem c]
    rfl
   rw [e]
   obtain ⟨r,e1,e2⟩:=edge_index_loop l hl q0 q1 (d - 1) k (i + 1) (by omega) (by omega)
   cases hs : (q0 == (l[i]).f0 && (q1 == (l[i]).f1)) with
   | true =>
    rw [if_pos rfl]
    exact ⟨_,rfl,by rw [Bool.true_or,decide_eq_true_eq];omega⟩
   | false =>
    rw [if_neg (by decide)]
    exact ⟨r,e1,by rw [e2,Bool.false_or]⟩
  ·rw [if_neg (by omega),List.drop_eq_nil_of_le (by omega)]
   exact ⟨-1,rfl,rfl⟩
theorem impl_edges_eq (r : List Int) (hr : r.length ≤ 1048576) (k : Nat) (hk : r.length < k) : impl_ringEdges.f k r = some (pairs r):=by
 have h:=impl_edges_loop r hr r.length k 0 [] (by omega) hk (Nat.le_refl _)
 rw [List.drop_zero,List.nil_append] at h
 unfold impl_ringEdges.f
 simp only [Int.natCast_zero] at h
 exact h
theorem edge_contains_eq (l : List S67) (hl : l.length ≤ 1048576) (q0 q1 : Int) (k : Nat) (hk : l.length < k) : slices_Contains_2_int64_2_int64.f k l q0 q1 = some (l.any fun s => q0 == s.f0 && (q1 == s.f1)):=by
 obtain ⟨q,e1,e2⟩:=edge_index_loop l hl q0 q1 l.length k 0 (by omega) hk
 simp only [Int.natCast_zero,List.drop_zero] at e1 e2
 unfold slices_Contains_2_int64_2_int64.f slices_Index_2_int64_2_int64.f
 rw [e1,Option.bind_some,e2]
theorem impl_has_eq (r : List Int) (hr : r.length ≤ 1048576) (a b : Int) (k : Nat) (hk : r.length < k) : ((impl_ringEdges.f k r).bind fun t => slices_Contains_2_int64_2_int64.f k t (mn a b) (mx a b)) = some (onB r a b):=by
 rw [impl_edges_eq r hr k hk,Option.bind_some,edge_contains_eq (pairs r) (by rw [pairs_length];exact hr) _ _ k (by rw [pairs_length];exact hk)]
 rfl

theorem p_ext {x y : S78} (h0 : x.f0 = y.f0) (h1 : x.f1 = y.f1) : x = y:=by
 cases x
 cases y
 simp_all
theorem getD_set_self (x : List S78) (i : Nat) (v : S78) (h : i < x.length) : (x.set i v).getD i z78 = v:=by
 rw [List.getD_eq_getElem?_getD,List.getElem?_set_self h]
 rfl
theorem getD_set_ne (x : List S78) (i j : Nat) (v : S78) (h : i ≠ j) : (x.set i v).getD j z78 = x.getD j z78:=by
 rw [List.getD_eq_getElem?_getD,List.getElem?_set_ne h,List.getD_eq_getElem?_getD]
theorem mark_loop (n : Nat) (hn : n ≤ 1000000000) : ∀ (d k i : Nat) (x : List S78),x.length = n → i ≤ n → n - i ≤ d → d < k → (∀ j,j < i → x.getD j z78 = ⟨1 + 2 * (j : Int),1 + 2 * (j : Int) + 1⟩) →
  ∃ m : List S78,laws_markPointS.l0 k x (1 + 2 * (i : Int)) i = some (1 + 2 * (n : Int),m) ∧ m.length = n ∧ ∀ j,j < n → m.getD j z78 = ⟨1 + 2 * (j : Int),1 + 2 * (j : Int) + 1⟩
 | d,0,i,x,_,_,_,h,_ => absurd h (by omega)
 | d,k + 1,i,x,hx,hi,h1,h2,hm => by
  simp only [laws_markPointS.l0]
  by_cases hlt : i < n
  ·rw [if_pos (by omega),if_pos (by omega),Option.bind_some,Int.toNat_natCast,rdN,rdN,getD_set_self x i _ (by omega),w1 (by omega),w64 (x:=1 + 2 * (i : Int) + 1) (by omega) (by omega),w64 (x:=1 + 2 * (i : Int) + 1 + 1) (by omega) (by omega)]
   have:=mark_loop n hn (d - 1) k (i + 1) ((x.set i ⟨1 + 2 * (i : Int),(x.getD i z78).f1⟩).set i ⟨1 + 2 * (i : Int),1 + 2 * (i : Int) + 1⟩) (by simp [hx]) (by omega) (by omega) (by omega) (fun j hj => by
    by_cases e : i = j
    ·subst e
     rw [getD_set_self _ _ _ (by simp;omega)]
    ·rw [getD_set_ne _ _ _ _ e,getD_set_ne _ _ _ _ e]
     exact hm j (by omega))
   rw [show (1 + 2 * (i : Int) + 1 + 1) = 1 + 2 * ((i + 1 : Nat) : Int) by omega]
   exact this
  ·have e : i = n:=by omega
   subst e
   exact ⟨x,by rw [if_neg (by omega)],hx,hm⟩
theorem marked (x : List S78) (hn : x.length ≤ 1000000000) : ∃ (n : Int) (m : List S78),0 < n ∧ (∀ k,x.length < k → laws_markPointS.f k x 1 = some (n,m)):=by
 obtain ⟨m,h1,h2,h3⟩:=mark_loop x.length hn x.length (x.length + 1) 0 x rfl (by omega) (by omega) (by omega) (fun j hj => absurd hj (by omega))
 refine ⟨1 + 2 * (x.length : Int),m,by omega,fun k hk => ?_⟩
 unfold laws_markPointS.f
 exact at_rounds (fun k => laws_markPointS.mono_l k _ _ _) (show x.length + 1 ≤ k by omega) h1

theorem pmark_at (n : Nat) (hn : n ≤ 1048576) (a : Int) (ha : 0 ≤ a ∧ a ≤ 1000000000000) : ∀ (d i : Nat) (x : List S78),x.length = n → i ≤ n → n - i ≤ d → (∀ j,j < i → x.getD j z78 = ⟨a + 2 * (j : Int),a + 2 * (j : Int) + 1⟩) →
  ∃ m : List S78,m.length = n ∧ (∀ j,j < n → m.getD j z78 = ⟨a + 2 * (j : Int),a + 2 * (j : Int) + 1⟩) ∧ ∀ k,d < k → laws_markPointS.l0 k x (a + 2 * (i : Int)) i = some (a + 2 * (n : Int),m):=by
 intro d
 induction d with
 | zero =>
  intro i x hx hi h1 hm
  obtain rfl : i = n:=by omega
  refine ⟨x,hx,hm,fun k hk => ?_⟩
  obtain ⟨k,rfl⟩ : ∃ q,k = q + 1:=⟨k - 1,by omega⟩
  simp only [laws_markPointS.l0]
  rw [if_neg (by omega)]
 | succ d ih =>
  intro i x hx hi h1 hm
  by_cases hlt : i < n
  ·obtain ⟨m,g1,g2,g3⟩:=ih (i + 1) ((x.set i ⟨a + 2 * (i : Int),(x.getD i z78).f1⟩).set i ⟨a + 2 * (i : Int),a + 2 * (i : Int) + 1⟩) (by simp [hx]) (by omega) (by omega) (fun j hj => by
    by_cases e : i = j
    ·subst e
     rw [getD_set_self _ _ _ (by simp;omega)]
    ·rw [getD_set_ne _ _ _ _ e,getD_set_ne _ _ _ _ e]
     exact hm j (by omega))
   refine ⟨m,g1,g2,fun k hk => ?_⟩
   obtain ⟨k,rfl⟩ : ∃ q,k = q + 1:=⟨k - 1,by omega⟩
   simp only [laws_markPointS.l0]
   rw [if_pos (by omega),if_pos (by omega),Option.bind_some,Int.toNat_natCast,rdN,rdN,getD_set_self x i _ (by omega),w1 (by omega),w64 (x:=a + 2 * (i : Int) + 1) (by omega) (by omega),w64 (x:=a + 2 * (i : Int) + 1 + 1) (by omega) (by omega)]
   have:=g3 k (by omega)
   rw [show a + 2 * (i : Int) + 1 + 1 = a + 2 * ((i + 1 : Nat) : Int) by omega]
   exact this
  ·obtain rfl : i = n:=by omega
   refine ⟨x,hx,hm,fun k hk => ?_⟩
   obtain ⟨k,rfl⟩ : ∃ q,k = q + 1:=⟨k - 1,by omega⟩
   simp only [laws_markPointS.l0]
   rw [if_neg (by omega)]

theorem iset_self (x : List Int) (i : Nat) (v : Int) (h : i < x.length) : (x.set i v).length = x.length:=List.length_set
theorem imk_at (n : Nat) (hn : n ≤ 1048576) : ∀ (d i : Nat) (x : List Int) (a : Int),x.length = n → i ≤ n → n - i ≤ d → 0 ≤ a ∧ a ≤ 1000000000000000 + (i : Int) → ∃ m : List Int,m.length = n ∧ ∀ k,d < k → laws_markInt64S.l0 k x a i = some (a + ((n - i : Nat) : Int),m):=by
 intro d
 induction d with
 | zero =>
  intro i x a hx hi h1 ha
  obtain rfl : i = n:=by omega
  refine ⟨x,hx,fun k hk => ?_⟩
  obtain ⟨k,rfl⟩ : ∃ q,k = q + 1:=⟨k - 1,by omega⟩
  simp only [laws_markInt64S.l0]
  rw [if_neg (by omega),show a + ((i - i : Nat) : Int) = a by omega]
 | succ d ih =>
  intro i x a hx hi h1 ha
  by_cases hlt : i < n
  ·obtain ⟨m,g1,g2⟩:=ih (i + 1) (x.set i a) (a + 1) (by rw [List.length_set];exact hx) (by omega) (by omega) (by omega)
   refine ⟨m,g1,fun k hk => ?_⟩
   obtain ⟨k,rfl⟩ : ∃ q,k = q + 1:=⟨k - 1,by omega⟩
   have:=g2 k (by omega)
   simp only [laws_markInt64S.l0]
   rw [if_pos (by omega),if_pos (by omega),Int.toNat_natCast,w1 (by omega),w64 (x:=a + 1) (by omega) (by omega)]
   rw [show a + 1 + ((n - (i + 1) : Nat) : Int) = a + ((n - i : Nat) : Int) by omega] at this
   exact this
  ·obtain rfl : i = n:=by omega
   refine ⟨x,hx,fun k hk => ?_⟩
   obtain ⟨k,rfl⟩ : ∃ q,k = q + 1:=⟨k - 1,by omega⟩
   simp only [laws_markInt64S.l0]
   rw [if_neg (by omega),show a + ((i - i : Nat) : Int) = a by omega]
theorem imk_all (x : List Int) (hn : x.length ≤ 1048576) (a : Int) (ha : 0 ≤ a ∧ a ≤ 1000000000000000) : ∃ m : List Int,m.length = x.length ∧ ∀ k,x.length < k → laws_markInt64S.f k x a = some (a + x.length,m):=by
 obtain ⟨m,g1,g2⟩:=imk_at x.length hn x.length 0 x a rfl (by omega) (by omega) ha
 refine ⟨m,g1,fun k hk => ?_⟩
 unfold laws_markInt64S.f
 exact g2 k hk
theorem mtext_loop : ∀ (d : Nat) (x : Int) (t : ByteArray),x < 10 ^ d → x ≤ 9000000000000000000 → t.size + d ≤ 1000 → ∃ r,∀ k,d < k → laws_markText.l0 k x t = some r
 | d,x,t,hd,hx,ht => by
  by_cases h0 : x > 0
  ·cases d with
   | zero => simp at hd;omega
   | succ d =>
    have e1 : (strOfNums [(wrap64 (48 + (Int.tmod x 10))) % 256]).size = 1:=rfl
    have hq : Int.tdiv x 10 < 10 ^ d:=by
     rw [Int.tdiv_eq_ediv_of_nonneg (by omega)]
     rw [Int.pow_succ] at hd
     omega
    have hq2 : Int.tdiv x 10 ≤ 9000000000000000000:=by
     rw [Int.tdiv_eq_ediv_of_nonneg (by omega)]
     omega
    have hq3 : 0 ≤ Int.tdiv x 10:=by
     rw [Int.tdiv_eq_ediv_of_nonneg (by omega)]
     omega
    obtain ⟨r,hr⟩:=mtext_loop d (Int.tdiv x 10) (strOfNums [(wrap64 (48 + (Int.tmod x 10))) % 256] ++ t) hq hq2 (by rw [ByteArray.size_append,e1];omega)
    refine ⟨r,fun k hk => ?_⟩
    obtain ⟨k,rfl⟩ : ∃ m,k = m + 1:=⟨k - 1,by omega⟩
    rw [laws_markText.l0,if_pos h0,Option.bind_some,e1,if_pos (by omega),w64 (x:=Int.tdiv x 10) (by omega) (by omega)]
    exact hr k (by omega)
  ·refine ⟨(⟨#[109]⟩ : ByteArray) ++ t,fun k hk => ?_⟩
   obtain ⟨k,rfl⟩ : ∃ m,k = m + 1:=⟨k - 1,by omega⟩
   rw [laws_markText.l0,if_neg h0,if_pos (by omega)]
theorem mtext (x : Int) (hx : x ≤ 1000000000000000) : ∃ t,∀ k,20 ≤ k → laws_markText.f k x = some t:=by
 by_cases h0 : x ≤ 0
 ·refine ⟨(⟨#[109,48]⟩ : ByteArray),fun k _ => ?_⟩
  unfold laws_markText.f
  rw [if_pos h0]
 ·have e : (10 : Int) ^ 16 = 10000000000000000:=by decide
  have hz : (⟨#[]⟩ : ByteArray).size = 0:=rfl
  obtain ⟨r,hr⟩:=mtext_loop 16 x (⟨#[]⟩ : ByteArray) (by omega) (by omega) (by omega)
  refine ⟨r,fun k hk => ?_⟩
  unfold laws_markText.f
  rw [if_neg h0]
  exact hr k (by omega)
theorem fset_self (x : List S64) (i : Nat) (v : S64) (h : i < x.length) : (x.set i v).getD i z64 = v:=by
 rw [List.getD_eq_getElem?_getD,List.getElem?_set_self h]
 rfl
theorem fset_ne (x : List S64) (i j : Nat) (v : S64) (h : i ≠ j) : (x.set i v).getD j z64 = x.getD j z64:=by
 rw [List.getD_eq_getElem?_getD,List.getElem?_set_ne h,List.getD_eq_getElem?_getD]
theorem fmk_at (n : Nat) (hn : n ≤ 1048576) : ∀ (d i : Nat) (x : List S64) (a : Int),x.length = n → i ≤ n → n - i ≤ d → (∀ j,j < n → (x.getD j z64).f1.length ≤ 1048576) → 0 ≤ a ∧ a ≤ 3000000 + 1048577 * (i : Int) →
  ∃ (q : Int) (m : List S64),a ≤ q ∧ ∀ k,d + 1048600 < k → laws_markFaceS.l0 k x a i = some (q,m):=by
 intro d
 induction d with
 | zero =>
  intro i x a hx hi h1 hr ha
  refine ⟨a,x,Int.le_refl _,fun k hk => ?_⟩
  obtain ⟨k,rfl⟩ : ∃ q,k = q + 1:=⟨k - 1,by omega⟩
  simp only [laws_markFaceS.l0]
  rw [if_neg (by omega)]
 | succ d ih =>
  intro i x a hx hi h1 hr ha
  by_cases hlt : i < n
  ·obtain ⟨t,ht⟩:=mtext a (by omega)
   have hl:=hr i hlt
   obtain ⟨mi,e0,e1⟩:=imk_all (x.getD i z64).f1 hl (a + 1) (by omega)
   obtain ⟨q,m,g1,g2⟩:=ih (i + 1) ((x.set i ⟨t,(x.getD i z64).f1⟩).set i ⟨t,mi⟩) (a + 1 + (x.getD i z64).f1.length) (by rw [List.length_set,List.length_set];exact hx) (by omega) (by omega) (fun j hj => by
    by_cases e : i = j
    ·subst e
     rw [fset_self _ _ _ (by rw [List.length_set];omega)]
     show mi.length ≤ 1048576
     omega
    ·rw [fset_ne _ _ _ _ e,fset_ne _ _ _ _ e]
     exact hr j hj) (by omega)
   refine ⟨q,m,by omega,fun k hk => ?_⟩
   obtain ⟨k,rfl⟩ : ∃ q,k = q + 1:=⟨k - 1,by omega⟩
   have g:=g2 k (by omega)
   have f1 : (x.set i (⟨t,(x.getD i z64).f1⟩ : S64)).getD i z64 = ⟨t,(x.getD i z64).f1⟩:=fset_self _ _ _ (by omega)
   simp only [laws_markFaceS.l0]
   rw [if_pos (by omega),if_pos (by omega),ht k (by omega),Option.bind_some,Int.toNat_natCast,f1,w64 (x:=a + 1) (by omega) (by omega),e1 k (by omega),Option.bind_some,w1 (by omega)]
   exact g
  ·refine ⟨a,x,Int.le_refl _,fun k hk => ?_⟩
   obtain ⟨k,rfl⟩ : ∃ q,k = q + 1:=⟨k - 1,by omega⟩
   simp only [laws_markFaceS.l0]
   rw [if_neg (by omega)]
/-- A drawing can be marked. -/
theorem mark_drawing (w h : Int) (pts : List S78) (fs : List S64) (hp : pts.length ≤ 1048576) (hf : fs.length ≤ 1048576) (hs : ShortP fs) : ∃ q : Int,0 ≤ q ∧ ∀ k,3150000 ≤ k → laws_markDrawing.f k w h pts fs 1 = some q:=by
 obtain ⟨m1,g1,g2,_⟩:=pmark_at pts.length hp 1 (by omega) pts.length 0 pts rfl (by omega) (by omega) (fun j hj => absurd hj (by omega)) |>.imp fun m h => (⟨h.1,h.2.2,trivial⟩ : m.length = pts.length ∧ (∀ k,pts.length < k → laws_markPointS.l0 k pts (1 + 2 * ((0 : Nat) : Int)) ((0 : Nat) : Int) = some (1 + 2 * (pts.length : Int),m)) ∧ True)
 obtain ⟨q,m2,e1,e2⟩:=fmk_at fs.length hf fs.length 0 fs (1 + 2 * (pts.length : Int)) rfl (by omega) (by omega) (fun j hj => (hs j hj).2) (by omega)
 refine ⟨q,by omega,fun k hk => ?_⟩
 have a1:=g2 k (by omega)
 have a2:=e2 k (by omega)
 rw [show (1 : Int) + 2 * ((0 : Nat) : Int) = 1 by omega] at a1
 simp only [Int.natCast_zero] at a1 a2
 unfold laws_markDrawing.f laws_markPointS.f laws_markFaceS.f
 rw [a1,Option.bind_some]
 dsimp only
 rw [a2,Option.bind_some]

def inB (ps : List S67) (e : S67) : Bool:=ps.any fun s => e.f0 == s.f0 && (e.f1 == s.f1)
def nearB (r q : List Int) : Bool:=(pairs r).any fun e => inB (pairs q) e
def nearFrom (fs : List S64) (x : Nat) : Nat → Nat → List Int
 | 0,_ => []
 | d + 1,i => (if i = x then [] else if nearB (fs.getD x z64).f1 (fs.getD i z64).f1 = true then [(i : Int)] else []) ++ nearFrom fs x d (i + 1)
theorem nearFrom_length (fs : List S64) (x : Nat) : ∀ d i,(nearFrom fs x d i).length ≤ d
 | 0,_ => Nat.le_refl _
 | d + 1,i => by
  have:=nearFrom_length fs x d (i + 1)
  unfold nearFrom
  rw [List.length_append]
  repeat' split
  all_goals simp
  all_goals omega
theorem near_in_loop (w h : Int) (pts : List S78) (fs : List S64) (hf : fs.length ≤ 1048576) (hs : ShortP fs) (x : Nat) (r : List Int) (hr : r.length ≤ 1048576) (out : List Int) (ho : out.length ≤ 1048576) (f : Nat) (hff : f < fs.length) (u : Bool) (K : Nat) (R : List Int × Int × Int)
  (hR : ∀ k,K ≤ k → spec_l05Near.l0 k (x : Int) (if f = x then out else if u = true then out ++ [(f : Int)] else out) r (wrap64 ((f : Int) + 1)) w h pts fs = some R) : ∀ (d k j : Nat) (b : Bool),r.length - j ≤ d → K + d + 1048578 < k → (b || ((pairs r).drop j).any fun e => inB (pairs (fs.getD f z64).f1) e) = u → spec_l05Near.l1 k (x : Int) out r f b j w h pts fs = some R
 | d,0,j,b,_,h2,_ => absurd h2 (by omega)
 | d,k + 1,j,b,h1,h2,hu => by
  simp only [spec_l05Near.l1]
  by_cases c : j < r.length
  ·have hm : (j + 1) % r.length < r.length:=Nat.mod_lt _ (by omega)
   rw [if_pos (by omega),w1 (by omega)]
   cases b with
   | true =>
    rw [if_pos rfl]
    exact near_in_loop w h pts fs hf hs x r hr out ho f hff u K R hR (d - 1) k (j + 1) true (by omega) (by omega) (by rw [← hu];rfl)
   | false =>
    rw [if_neg (by decide),if_pos (by omega),if_pos (by omega),if_pos (by omega),if_neg (by omega),← w1 (by omega),tm1 (by omega) c,w1 (by omega),if_pos (by omega),if_pos (by omega),rdF_nat,rd_nat,rd_nat,spec_has_eq _ (hs f hff).2 _ _ k (by have:=(hs f hff).2;omega),Option.bind_some]
    refine near_in_loop w h pts fs hf hs x r hr out ho f hff u K R hR (d - 1) k (j + 1) _ (by omega) (by omega) ?_
    rw [← hu,List.drop_eq_getElem_cons (i:=j) (by rw [pairs_length];exact c),List.any_cons,pairs_get,Bool.false_or]
    rfl
  ·rw [if_neg (by omega)]
   rw [List.drop_eq_nil_of_le (by rw [pairs_length];omega),List.any_nil,Bool.or_false] at hu
   subst hu
   have:=hR k (by omega)
   by_cases e : f = x
   ·rw [if_pos (by omega)]
    rw [if_pos e] at this
    exact this
   ·rw [if_neg (by omega)]
    rw [if_neg e] at this
    cases b with
    | true =>
     rw [if_pos rfl,if_pos (by omega)]
     exact this
    | false =>
     rw [if_neg (by decide)]
     exact this
theorem spec_near_loop (w h : Int) (pts : List S78) (fs : List S64) (hf : fs.length ≤ 1048576) (hs : ShortP fs) (x : Nat) (hx : x < fs.length) : ∀ (d k i : Nat) (out : List Int),fs.length - i = d → 2100000 * (d + 1) < k → out.length ≤ i → spec_l05Near.l0 k (x : Int) out (fs.getD x z64).f1 i w h pts fs = some (out ++ nearFrom fs x d i,w,h)
 | d,0,i,out,_,h2,_ => absurd h2 (by omega)
 | 0,k + 1,i,out,h1,h2,ho => by
  simp only [spec_l05Near.l0]
  rw [if_neg (by omega)]
  unfold nearFrom
  rw [List.append_nil]
 | d + 1,k + 1,i,out,h1,h2,ho => by
  simp only [spec_l05Near.l0]
  rw [if_pos (by omega)]
  have hl:=(hs x hx).2
  have:=near_in_loop w h pts fs hf hs x (fs.getD x z64).f1 hl out (by omega) i (by omega) (nearB (fs.getD x z64).f1 (fs.getD i z64).f1) (2100000 * (d + 1) + 1) (out ++ nearFrom fs x (d + 1) i,w,h) (fun k hk => by
   rw [w1 (by omega)]
   unfold nearFrom
   by_cases e : i = x
   ·rw [if_pos e,if_pos e,List.nil_append]
    exact spec_near_loop w h pts fs hf hs x hx d k (i + 1) out (by omega) (by omega) (by omega)
   ·rw [if_neg e,if_neg e]
    cases nearB (fs.getD x z64).f1 (fs.getD i z64).f1 with
    | true =>
     rw [if_pos rfl,if_pos rfl,← List.append_assoc]
     exact spec_near_loop w h pts fs hf hs x hx d k (i + 1) _ (by omega) (by omega) (by rw [List.length_append];simp;omega)
    | false =>
     rw [if_neg (by decide),if_neg (by decide),List.nil_append]
     exact spec_near_loop w h pts fs hf hs x hx d k (i + 1) out (by omega) (by omega) (by omega)) (fs.getD x z64).f1.length k 0 false (by omega) (by omega) (by rw [List.drop_zero,Bool.false_or];rfl)
  simp only [Int.natCast_zero] at this
  exact this
def edgesF (fs : List S64) : List (List S67):=fs.map fun f => pairs f.f1
theorem edgesF_length (fs : List S64) : (edgesF fs).length = fs.length:=by
 unfold edgesF
 rw [List.length_map]
theorem edgesF_get (fs : List S64) (y : Nat) (h : y < fs.length) : (edgesF fs).getD y [] = pairs (fs.getD y z64).f1:=by
 unfold edgesF
 rw [List.getD_eq_getElem?_getD,List.getD_eq_getElem?_getD,List.getElem?_map,List.getElem?_eq_getElem h]
 rfl
theorem rdE_rows (l : List (List S67)) (j : Nat) : rd_L8 l (j : Int) = l.getD j []:=by
 unfold rd_L8
 rw [Int.toNat_natCast]
theorem rdI_rows (l : List (List Int)) (j : Nat) : rd_L3 l (j : Int) = l.getD j []:=by
 unfold rd_L3
 rw [Int.toNat_natCast]
theorem near_ix_loop (E : List (List S67)) (hE : E.length ≤ 1048576) (y : Nat) (hy : y < E.length) (hl : (E.getD y []).length ≤ 1048576) (row : List S67) (hrow : row.length ≤ 1048576) : ∀ (d k i : Nat),row.length - i ≤ d → d + 1048577 < k → ∃ r,slices_ContainsFunc_2_int64_2_int64.ix k row (E,(y : Int)) i = some r ∧ decide (r ≥ 0) = (row.drop i).any fun e => inB (E.getD y []) e
 | d,0,i,_,h2 => absurd h2 (by omega)
 | d,k + 1,i,h1,h2 => by
  simp only [slices_ContainsFunc_2_int64_2_int64.ix]
  by_cases c : i < row.length
  ·obtain ⟨r,e1,e2⟩:=near_ix_loop E hE y hy hl row hrow (d - 1) k (i + 1) (by omega) (by omega)
   have e : row.getD i z67 = row[i]:=by
    rw [List.getD_eq_getElem?_getD,List.getElem?_eq_getElem c]
    rfl
   rw [if_pos (by omega),if_pos (by omega),if_pos (by omega),if_pos (by omega),rdE_rows,rdE_nat,e,edge_contains_eq _ hl _ _ k (by omega),Option.bind_some,w1 (by omega),e1,List.drop_eq_getElem_cons c,List.any_cons]
   show ∃ r,(if inB (E.getD y []) row[i] = true then _ else _) = _ ∧ _
   cases inB (E.getD y []) row[i] with
   | true =>
    rw [if_pos rfl]
    exact ⟨_,rfl,by rw [Bool.true_or,decide_eq_true_eq];omega⟩
   | false =>
    rw [if_neg (by decide)]
    exact ⟨r,rfl,by rw [e2,Bool.false_or]⟩
  ·rw [if_neg (by omega),List.drop_eq_nil_of_le (by omega)]
   exact ⟨-1,rfl,rfl⟩
theorem near_has_eq (fs : List S64) (hf : fs.length ≤ 1048576) (hs : ShortP fs) (x y : Nat) (hx : x < fs.length) (hy : y < fs.length) (k : Nat) (hk : 2100000 < k) : slices_ContainsFunc_2_int64_2_int64.f k (rd_L8 (edgesF fs) (x : Int)) (edgesF fs,(y : Int)) = some (nearB (fs.getD x z64).f1 (fs.getD y z64).f1):=by
 have l1:=(hs x hx).2
 have l2:=(hs y hy).2
 rw [rdE_rows,edgesF_get fs x hx]
 obtain ⟨r,e1,e2⟩:=near_ix_loop (edgesF fs) (by rw [edgesF_length];exact hf) y (by rw [edgesF_length];exact hy) (by rw [edgesF_get fs y hy,pairs_length];exact l2) (pairs (fs.getD x z64).f1) (by rw [pairs_length];exact l1) (pairs (fs.getD x z64).f1).length k 0 (by omega) (by rw [pairs_length];omega)
 simp only [Int.natCast_zero,List.drop_zero] at e1 e2
 unfold slices_ContainsFunc_2_int64_2_int64.f
 rw [e1,Option.bind_some,e2,edgesF_get fs y hy]
 rfl
theorem row_set_self (l : List (List Int)) (i : Nat) (v : List Int) (h : i < l.length) : (l.set i v).getD i [] = v:=by
 rw [List.getD_eq_getElem?_getD,List.getElem?_set_self h]
 rfl
theorem row_set_ne (l : List (List Int)) (i j : Nat) (v : List Int) (h : i ≠ j) : (l.set i v).getD j [] = l.getD j []:=by
 rw [List.getD_eq_getElem?_getD,List.getElem?_set_ne h,List.getD_eq_getElem?_getD]
theorem nb_in_loop (fs : List S64) (hf : fs.length ≤ 1048576) (hs : ShortP fs) (x : Nat) (hx : x < fs.length) (out : List (List Int)) (ho : out.length = fs.length) (K : Nat) (R : List (List Int))
  (hR : ∀ k,K ≤ k → impl_neighbours.l1 k (out.set x (nearFrom fs x fs.length 0)) (fs.length : Int) (wrap64 ((x : Int) + 1)) (edgesF fs) = some R) : ∀ (d k y : Nat) (pre : List Int),fs.length - y = d → K + d + 2100001 < k → pre.length ≤ y → pre ++ nearFrom fs x d y = nearFrom fs x fs.length 0 → impl_neighbours.l2 k (out.set x pre) (x : Int) (fs.length : Int) (x : Int) (fs.length : Int) (y : Int) (edgesF fs) = some R
 | d,0,y,pre,_,h2,_,_ => absurd h2 (by omega)
 | 0,k + 1,y,pre,h1,h2,h3,h4 => by
  simp only [impl_neighbours.l2]
  rw [if_neg (by omega)]
  have h4 : pre ++ [] = nearFrom fs x fs.length 0:=h4
  rw [List.append_nil] at h4
  rw [h4]
  exact hR k (by omega)
 | d + 1,k + 1,y,pre,h1,h2,h3,h4 => by
  simp only [impl_neighbours.l2]
  rw [if_pos (by omega),w1 (by omega)]
  have h4 : pre ++ ((if y = x then [] else if nearB (fs.getD x z64).f1 (fs.getD y z64).f1 = true then [(y : Int)] else []) ++ nearFrom fs x d (y + 1)) = nearFrom fs x fs.length 0:=h4
  by_cases e : y = x
  ·rw [if_pos (by omega)]
   rw [if_pos e,List.nil_append] at h4
   exact nb_in_loop fs hf hs x hx out ho K R hR d k (y + 1) pre (by omega) (by omega) (by omega) h4
  ·rw [if_neg (by omega),if_pos (by omega),if_pos (by rw [edgesF_length];omega),near_has_eq fs hf hs x y hx (by omega) k (by omega),Option.bind_some]
   rw [if_neg e] at h4
   cases hb : nearB (fs.getD x z64).f1 (fs.getD y z64).f1 with
   | true =>
    rw [hb,if_pos rfl,← List.append_assoc] at h4
    rw [if_pos rfl,if_pos (by rw [List.length_set];omega),rdI_rows,row_set_self out x pre (by omega),if_pos (by omega),Int.toNat_natCast,List.set_set]
    exact nb_in_loop fs hf hs x hx out ho K R hR d k (y + 1) _ (by omega) (by omega) (by rw [List.length_append];simp;omega) h4
   | false =>
    rw [hb,if_neg (by decide),List.nil_append] at h4
    rw [if_neg (by decide)]
    exact nb_in_loop fs hf hs x hx out ho K R hR d k (y + 1) pre (by omega) (by omega) (by omega) h4
theorem nb_out_loop (fs : List S64) (hf : fs.length ≤ 1048576) (hs : ShortP fs) : ∀ (d x : Nat) (out : List (List Int)),fs.length - x = d → x ≤ fs.length → out.length = fs.length → (∀ j,x ≤ j → j < fs.length → out.getD j [] = []) →
  ∃ R : List (List Int),R.length = fs.length ∧ (∀ j,j < x → R.getD j [] = out.getD j []) ∧ (∀ j,x ≤ j → j < fs.length → R.getD j [] = nearFrom fs j fs.length 0) ∧ ∀ k,4200000 * (d + 1) < k → impl_neighbours.l1 k out (fs.length : Int) (x : Int) (edgesF fs) = some R:=by
 intro d
 induction d with
 | zero =>
  intro x out h1 h2 h3 h4
  refine ⟨out,h3,fun _ _ => rfl,fun j a b => absurd b (by omega),fun k hk => ?_⟩
  obtain ⟨k,rfl⟩ : ∃ q,k = q + 1:=⟨k - 1,by omega⟩
  simp only [impl_neighbours.l1]
  rw [if_neg (by omega)]
 | succ d ih =>
  intro x out h1 h2 h3 h4
  have hx : x < fs.length:=by omega
  obtain ⟨R,g1,g2,g3,g4⟩:=ih (x + 1) (out.set x (nearFrom fs x fs.length 0)) (by omega) (by omega) (by rw [List.length_set];exact h3) (fun j a b => by rw [row_set_ne _ _ _ _ (by omega)];exact h4 j (by omega) b)
  refine ⟨R,g1,fun j hj => by rw [g2 j (by omega),row_set_ne _ _ _ _ (by omega)],fun j a b => ?_,fun k hk => ?_⟩
  ·by_cases e : j = x
   ·subst e
    rw [g2 j (by omega),row_set_self _ _ _ (by omega)]
   ·exact g3 j (by omega) b
  ·obtain ⟨k,rfl⟩ : ∃ q,k = q + 1:=⟨k - 1,by omega⟩
   simp only [impl_neighbours.l1]
   rw [if_pos (by omega)]
   have e0 : out.set x [] = out:=by
    have:=h4 x (Nat.le_refl _) hx
    rw [List.getD_eq_getElem?_getD,List.getElem?_eq_getElem (by omega : x < out.length)] at this
    have this : out[x]'(by omega) = []:=this
    rw [← this]
    exact List.set_getElem_self _
   have:=nb_in_loop fs hf hs x hx out h3 (4200000 * (d + 1) + 1) R (fun k hk => by rw [w1 (by omega)];exact g4 k (by omega)) fs.length k 0 [] (by omega) (by omega) (Nat.le_refl _) (by rw [List.nil_append])
   rw [e0] at this
   simp only [Int.natCast_zero] at this
   rw [edgesF_length]
   exact this
theorem nb_build (fs : List S64) (hf : fs.length ≤ 1048576) (hs : ShortP fs) (K : Nat) (R : List (List Int)) (hR : ∀ k,K ≤ k → impl_neighbours.l1 k (List.replicate fs.length []) (fs.length : Int) 0 (edgesF fs) = some R) : ∀ (d k i : Nat) (es : List (List S67)),fs.length - i ≤ d → i ≤ fs.length → K + d + 1048577 < k → es.length = i → es ++ edgesF (fs.drop i) = edgesF fs → impl_neighbours.l0 k fs (fs.length : Int) (i : Int) es = some R
 | d,0,i,es,_,_,h2,_,_ => absurd h2 (by omega)
 | d,k + 1,i,es,h1,h0,h2,h3,h4 => by
  simp only [impl_neighbours.l0]
  by_cases c : i < fs.length
  ·have hl:=(hs i c).2
   rw [if_pos (by omega),if_pos (by omega),if_pos (by omega),rdF_nat,impl_edges_eq _ hl k (by omega),Option.bind_some,if_pos (by omega),w1 (by omega)]
   refine nb_build fs hf hs K R hR (d - 1) k (i + 1) _ (by omega) (by omega) (by omega) (by rw [List.length_append];simp;omega) ?_
   rw [← h4,List.append_assoc,List.drop_eq_getElem_cons c]
   have e : fs.getD i z64 = fs[i]:=by
    rw [List.getD_eq_getElem?_getD,List.getElem?_eq_getElem c]
    rfl
   rw [e]
   rfl
  ·rw [List.drop_eq_nil_of_le (by omega)] at h4
   have h4 : es ++ [] = edgesF fs:=h4
   rw [List.append_nil] at h4
   subst h4
   rw [if_neg (by omega),edgesF_length,if_pos (by omega),Int.toNat_natCast,if_pos (by omega)]
   exact hR k (by omega)
theorem impl_near_eq (w h : Int) (pts : List S78) (fs : List S64) (hf : fs.length ≤ 1048576) (hs : ShortP fs) : ∃ R : List (List Int),R.length = fs.length ∧ (∀ j,j < fs.length → R.getD j [] = nearFrom fs j fs.length 0) ∧ ∀ k,4200000 * (fs.length + 2) + 3150000 ≤ k → impl_neighbours.f k w h pts fs = some R:=by
 obtain ⟨R,g1,_,g3,g4⟩:=nb_out_loop fs hf hs fs.length 0 (List.replicate fs.length []) (by omega) (by omega) (by rw [List.length_replicate]) (fun j _ hj => by rw [List.getD_eq_getElem?_getD,List.getElem?_replicate];split <;> rfl)
 refine ⟨R,g1,fun j hj => g3 j (by omega) hj,fun k hk => ?_⟩
 simp only [Int.natCast_zero] at g4
 unfold impl_neighbours.f
 have:=nb_build fs hf hs (4200000 * (fs.length + 1) + 1) R (fun k hk => g4 k (by omega)) fs.length k 0 [] (by omega) (by omega) (by omega) rfl (by rw [List.drop_zero,List.nil_append])
 simp only [Int.natCast_zero] at this
 exact this
theorem near_eq (w h : Int) (pts : List S78) (fs : List S64) (a : Int) (hp : pts.length ≤ 1048576) (hf : fs.length ≤ 1048576) (hs : ShortP fs) : ∃ r : List Int × Int,r.1.length ≤ 1048576 ∧ ∀ k,4200000 * (fs.length + 2) + 3150002 ≤ k → spec_NeighboursOf.f k w h pts fs a = some r ∧ impl_NeighboursOf.f k w h pts fs a = some r:=by
 have wl : wrap64 ((fs.length : Int) - 1) = (fs.length : Int) - 1:=w64 (by omega) (by omega)
 have r0 : rd [a] 0 = a:=rfl
 have w01 : wrap64 (0 + 1) = 1:=w64 (by omega) (by omega)
 have index : ∀ k,3150002 ≤ k → impl_faceIndex.f k w h pts fs [a] = some (if drawB w h pts fs = true then (if 0 ≤ a ∧ a ≤ (fs.length : Int) - 1 then 0 else 2) else 1):=by
  intro k hk
  obtain ⟨k,rfl⟩ : ∃ q,k = q + 2:=⟨k - 2,by omega⟩
  unfold impl_faceIndex.f
  rw [impl_draw_eq w h pts fs hp hf hs _ (by omega),Option.bind_some]
  cases drawB w h pts fs with
  | false => rfl
  | true =>
   rw [if_pos rfl,if_pos rfl,impl_faceIndex.l0,if_pos (by simp),if_pos (by omega),if_pos (by simp),r0,wl,impl_within_eq,Option.bind_some]
   by_cases c : 0 ≤ a ∧ a ≤ (fs.length : Int) - 1
   ·rw [decide_eq_true c,if_pos rfl,if_pos c,impl_faceIndex.l0,w01,if_neg (by simp)]
   ·rw [decide_eq_false c,if_neg (by decide),if_neg c]
 obtain ⟨R,R1,R2,R3⟩:=impl_near_eq w h pts fs hf hs
 cases hd : drawB w h pts fs with
 | false =>
  rw [hd] at index
  refine ⟨([],1),by simp,fun k hk => ⟨?_,?_⟩⟩
  ·unfold spec_NeighboursOf.f
   rw [spec_draw_eq w h pts fs hp hf hs _ (by omega),hd]
   rfl
  ·unfold impl_NeighboursOf.f
   rw [index k (by omega)]
   rfl
 | true =>
  rw [hd] at index
  by_cases c : 0 ≤ a ∧ a ≤ (fs.length : Int) - 1
  ·obtain ⟨i,rfl⟩ : ∃ i : Nat,a = (i : Int):=⟨a.toNat,by omega⟩
   have hi : i < fs.length:=by omega
   have hn:=nearFrom_length fs i fs.length 0
   refine ⟨(nearFrom fs i fs.length 0,0),by show (nearFrom fs i fs.length 0).length ≤ 1048576;omega,fun k hk => ⟨?_,?_⟩⟩
   ·unfold spec_NeighboursOf.f spec_l05Face.f
    rw [spec_draw_eq w h pts fs hp hf hs _ (by omega),hd,Option.bind_some]
    dsimp only
    rw [if_pos rfl,spec_l00In_eq,wl,decide_eq_true c,Option.bind_some,Option.bind_some]
    dsimp only
    rw [if_pos rfl]
    unfold spec_l05Near.f
    have:=spec_near_loop w h pts fs hf hs i hi fs.length k 0 [] (by omega) (by omega) (Nat.le_refl _)
    simp only [Int.natCast_zero,List.nil_append] at this
    rw [if_pos (by omega),if_pos (by omega),rdF_nat,this,Option.bind_some]
   ·unfold impl_NeighboursOf.f
    rw [index k (by omega),if_pos rfl,if_pos c,Option.bind_some,if_pos rfl,R3 k (by omega),Option.bind_some,if_pos (by omega),if_pos (by omega),rdI_rows,R2 i hi]
  ·refine ⟨([],2),by simp,fun k hk => ⟨?_,?_⟩⟩
   ·unfold spec_NeighboursOf.f spec_l05Face.f
    rw [spec_draw_eq w h pts fs hp hf hs _ (by omega),hd,Option.bind_some]
    dsimp only
    rw [if_pos rfl,spec_l00In_eq,wl,decide_eq_false c]
    rfl
   ·unfold impl_NeighboursOf.f
    rw [index k (by omega),if_pos rfl,if_neg c]
    rfl
theorem FnExactNeighboursOf (w h : Int) (pts : List S80) (fs : List S70) (a : Int) (_ : (Lit.int .i64 w).wf = true) (_ : (Lit.int .i64 h).wf = true) (hp : pts.length ≤ maxLen) (hpg : ∀ x ∈ pts,(Lit.int .i64 x.f0).wf = true ∧ (Lit.int .i64 x.f1).wf = true) (hf : fs.length ≤ maxLen) (hg : ∀ x ∈ fs,x.f0.size ≤ maxLen ∧ (x.f1.length ≤ maxLen ∧ ∀ y ∈ x.f1,(Lit.int .i64 y).wf = true)) (_ : (Lit.int .i64 a).wf = true) : ∃ k,laws_FnExactNeighboursOf.f k w h pts fs a = some true:=by
 obtain ⟨B,hB⟩ : ∃ B : Nat,4200000 * (fs.length + 2) + 3160000 ≤ B:=⟨_,Nat.le_refl _⟩
 refine ⟨B + 3,?_⟩
 unfold laws_FnExactNeighboursOf.f
 obtain ⟨r,e1,e2⟩:=szDrawing_eq w h pts fs hp hf hg (B + 3) (by omega)
 rw [e1,Option.bind_some]
 by_cases c : r < 0
 ·rw [if_pos c]
 ·rw [if_neg c]
  obtain ⟨h1,h2,h3⟩:=e2 (by omega)
  have td:=fun k (hk : 3000000 ≤ k) => toDrawing_eq w h pts fs h1 h2 h3 k hk
  have ed:=fun k (hk : 3000000 ≤ k) => eqDrawing_self w h pts fs h1 h2 h3 k hk
  obtain ⟨⟨g0,g1⟩,hr,hk⟩:=near_eq w h (conv pts) (convF fs) a (by rw [conv_length];exact h1) (by rw [convF_length];exact h2) (ShortP_conv fs h3)
  have hr : g0.length ≤ 1048576:=hr
  rw [convF_length] at hk
  obtain ⟨m0,hm0,a1⟩:=mark_drawing w h (conv pts) (convF fs) (by rw [conv_length];exact h1) (by rw [convF_length];exact h2) (ShortP_conv fs h3)
  obtain ⟨m1,_,b1,b2⟩:=imark_held_at g0 (by omega) 1 (by omega)
  have e3:=fun k (hk : 1048577 < k) => eqInt64S_self g0 (by omega) k (by omega)
  have q0 : ¬ m0 < 0:=by omega
  have q1 : ¬ (1 + (g0.length : Int)) < 0:=by omega
  rw [td (B + 3) (by omega),Option.bind_some]
  dsimp only
  rw [(hk (B + 3) (by omega)).1,Option.bind_some,Option.bind_some]
  dsimp only
  rw [(hk (B + 3) (by omega)).2,Option.bind_some]
  dsimp only
  rw [e3 (B + 3) (by omega),Option.bind_some,if_pos rfl]
  simp only [laws_FnExactNeighboursOf.j0,bne_self_eq_false,Bool.false_eq_true,if_false]
  rw [td (B + 2) (by omega),Option.bind_some]
  dsimp only
  rw [ed (B + 2) (by omega),Option.bind_some,if_pos rfl,a1 (B + 2) (by omega),Option.bind_some,if_neg q0,e3 (B + 2) (by omega),Option.bind_some,if_pos rfl]
  simp only [laws_FnExactNeighboursOf.j1,bne_self_eq_false,Bool.false_eq_true,if_false]
  rw [b1 (B + 1) (by omega),Option.bind_some]
  dsimp only
  rw [b2 (B + 1) (by omega),Option.bind_some,if_neg q1,if_pos rfl,td (B + 1) (by omega),Option.bind_some]
  dsimp only
  rw [(hk (B + 1) (by omega)).2,Option.bind_some]
  dsimp only
  rw [e3 (B + 1) (by omega),Option.bind_some,if_pos rfl]
  simp only [laws_FnExactNeighboursOf.j2,bne_self_eq_false,Bool.false_eq_true,if_false]
  rw [b2 B (by omega),Option.bind_some,if_neg q1,if_pos rfl]

end Go.Proofs.Ytpeebobdbaemiaa.Pure
