/- The plain law: what FnExactTriangulate computes is true at every input. -/
import Derived.Test.YtnnchaggdnlfmaaLFnExactTriangulateb
namespace Go.Proofs.Ytnnchaggdnlfmaa.Pure
open Go.RowKit Go.Proofs.Ytnnchaggdnlfmaa.PFnExactTriangulate Go.Proofs.YtnnchaggdnlfmaaW.PrintWords Go.Proofs.YtnnchaggdnlfmaaW.PrintLast Go.Proofs.YtnnchaggdnlfmaaW.PrintMore Go.Proofs.Ytnnchaggdnlfmaa.MaGeoA Go.Proofs.Ytnnchaggdnlfmaa.MaGeoB Go.Proofs.Ytnnchaggdnlfmaa.MaGeoC
set_option linter.unusedVariables false
set_option linter.unusedSimpArgs false

theorem mul_self_nonneg' (a : Int) : 0 ≤ a * a:=by
 rcases Int.le_total 0 a with h | h
 ·exact Int.mul_nonneg h h
 ·have:=Int.mul_nonneg (show 0 ≤ -a by omega) (show 0 ≤ -a by omega)
  rwa [Int.neg_mul_neg] at this
theorem prod_in2 {a b M N : Int} (ha : -M ≤ a ∧ a ≤ M) (hb : -N ≤ b ∧ b ≤ N) (hM : 0 ≤ M) (hN : 0 ≤ N) : -(M * N) ≤ a * b ∧ a * b ≤ M * N:=by
 rcases Int.le_total 0 a with h | h
 ·have h1 : a * b ≤ a * N:=Int.mul_le_mul_of_nonneg_left hb.2 h
  have h2 : a * (-N) ≤ a * b:=Int.mul_le_mul_of_nonneg_left hb.1 h
  have h3 : a * N ≤ M * N:=Int.mul_le_mul_of_nonneg_right ha.2 hN
  rw [Int.mul_neg] at h2
  omega
 ·have h1 : (-a) * b ≤ (-a) * N:=Int.mul_le_mul_of_nonneg_left hb.2 (by omega)
  have h2 : (-a) * (-N) ≤ (-a) * b:=Int.mul_le_mul_of_nonneg_left hb.1 (by omega)
  have h3 : (-a) * N ≤ M * N:=Int.mul_le_mul_of_nonneg_right (by omega) hN
  have e1 : (-a) * b = -(a * b):=Int.neg_mul a b
  have e2 : (-a) * N = -(a * N):=Int.neg_mul a N
  have e3 : (-a) * (-N) = a * N:=Int.neg_mul_neg a N
  omega
theorem prod_in {a b M : Int} (ha : -M ≤ a ∧ a ≤ M) (hb : -M ≤ b ∧ b ≤ M) (hM : 0 ≤ M) : -(M * M) ≤ a * b ∧ a * b ≤ M * M:=prod_in2 ha hb hM hM

/-- A point as the plain facts take it. -/
def toPt (s : S73) : Geo.Pt:=(s.f0,s.f1)
def ptsOf (p : List S73) : List Geo.Pt:=p.map toPt
theorem ptsOf_length (p : List S73) : (ptsOf p).length = p.length:=List.length_map _
theorem pt_of (p : List S73) (i : Nat) (h : i < p.length) : Geo.pt (ptsOf p) i = toPt (p.getD i z73):=by
 unfold Geo.pt ptsOf
 rw [List.getD_eq_getElem?_getD,List.getElem?_map,List.getElem?_eq_getElem h,List.getD_eq_getElem?_getD,List.getElem?_eq_getElem h]
 rfl
/-- Coordinates that reckon without a wrap. -/
def inC (x y : Int) : Prop:=(0 ≤ x ∧ x ≤ 40000) ∧ (0 ≤ y ∧ y ≤ 40000)
theorem inC_of_ok {x y : Int} (h : okP x y = true) : inC x y:=by
 obtain ⟨⟨a,b⟩,c,d⟩:=(okP_iff _ _).1 h
 exact ⟨⟨a,by omega⟩,c,by omega⟩
theorem side_cr {a0 a1 b0 b1 c0 c1 : Int} (ha : inC a0 a1) (hb : inC b0 b1) (hc : inC c0 c1) :
  sideW a0 a1 b0 b1 c0 c1 = if Geo.cr (a0,a1) (b0,b1) (c0,c1) > 0 then 1 else if Geo.cr (a0,a1) (b0,b1) (c0,c1) < 0 then -1 else 0:=by
 obtain ⟨⟨A1,A2⟩,A3,A4⟩:=ha
 obtain ⟨⟨B1,B2⟩,B3,B4⟩:=hb
 obtain ⟨⟨C1,C2⟩,C3,C4⟩:=hc
 have h1:=prod_in (a:=b0 - a0) (b:=c1 - a1) (M:=40000) (by omega) (by omega) (by omega)
 have h2:=prod_in (a:=b1 - a1) (b:=c0 - a0) (M:=40000) (by omega) (by omega) (by omega)
 unfold sideW Geo.cr
 rw [w64 (x:=b0 - a0) (by omega) (by omega),w64 (x:=b1 - a1) (by omega) (by omega),w64 (x:=c0 - a0) (by omega) (by omega),w64 (x:=c1 - a1) (by omega) (by omega),w64 (x:=(b0 - a0) * (c1 - a1)) (by omega) (by omega),w64 (x:=(b1 - a1) * (c0 - a0)) (by omega) (by omega),w64 (by omega) (by omega)]
theorem side_sign {a0 a1 b0 b1 c0 c1 : Int} (ha : inC a0 a1) (hb : inC b0 b1) (hc : inC c0 c1) :
  (0 < sideW a0 a1 b0 b1 c0 c1 ↔ 0 < Geo.cr (a0,a1) (b0,b1) (c0,c1)) ∧ (sideW a0 a1 b0 b1 c0 c1 < 0 ↔ Geo.cr (a0,a1) (b0,b1) (c0,c1) < 0):=by
 rw [side_cr ha hb hc]
 generalize Geo.cr (a0,a1) (b0,b1) (c0,c1) = x
 by_cases h : x > 0
 ·rw [if_pos h];constructor <;> omega
 ·rw [if_neg h]
  by_cases h2 : x < 0
  ·rw [if_pos h2];constructor <;> omega
  ·rw [if_neg h2];constructor <;> omega
theorem on_iff {a0 a1 b0 b1 c0 c1 : Int} (ha : inC a0 a1) (hb : inC b0 b1) (hc : inC c0 c1) : onW a0 a1 b0 b1 c0 c1 = true ↔ Geo.On (a0,a1) (b0,b1) (c0,c1):=by
 have s:=side_sign ha hb hc
 unfold onW Geo.On Geo.Btw mn mx
 rw [Bool.and_eq_true,Bool.and_eq_true,decide_eq_true_eq,decide_eq_true_eq,decide_eq_true_eq]
 refine and_congr ⟨fun h => by omega,fun h => by omega⟩ (and_congr ?_ ?_)
 ·constructor
  ·intro h;split at h <;> split at h <;> (simp only;omega)
  ·intro h;simp only at h;constructor <;> split <;> omega
 ·constructor
  ·intro h;split at h <;> split at h <;> (simp only;omega)
  ·intro h;simp only at h;constructor <;> split <;> omega
theorem sgn_mul {s t x y : Int} (hs : s = 1 ∨ s = -1 ∨ s = 0) (ht : t = 1 ∨ t = -1 ∨ t = 0) (h1 : (0 < s ↔ 0 < x) ∧ (s < 0 ↔ x < 0)) (h2 : (0 < t ↔ 0 < y) ∧ (t < 0 ↔ y < 0)) : wrap64 (s * t) < 0 ↔ x * y < 0:=by
 have key : x * y < 0 ↔ (x < 0 ∧ 0 < y) ∨ (0 < x ∧ y < 0):=⟨Geo.lt_zero_cases,Geo.mul_lt_zero⟩
 rw [key,← h1.1,← h1.2,← h2.1,← h2.2]
 rcases hs with rfl | rfl | rfl <;> rcases ht with rfl | rfl | rfl <;> (rw [w64 (by omega) (by omega)];omega)
theorem cross_iff {a0 a1 b0 b1 c0 c1 d0 d1 : Int} (ha : inC a0 a1) (hb : inC b0 b1) (hc : inC c0 c1) (hd : inC d0 d1) : crossW a0 a1 b0 b1 c0 c1 d0 d1 = true ↔ Geo.Crs (a0,a1) (b0,b1) (c0,c1) (d0,d1):=by
 unfold crossW Geo.Crs
 rw [Bool.and_eq_true,decide_eq_true_eq,decide_eq_true_eq]
 exact and_congr (sgn_mul (sideW_three _ _ _ _ _ _) (sideW_three _ _ _ _ _ _) (side_sign ha hb hc) (side_sign ha hb hd)) (sgn_mul (sideW_three _ _ _ _ _ _) (sideW_three _ _ _ _ _ _) (side_sign hc hd ha) (side_sign hc hd hb))
theorem touch_iff {a0 a1 b0 b1 c0 c1 d0 d1 : Int} (ha : inC a0 a1) (hb : inC b0 b1) (hc : inC c0 c1) (hd : inC d0 d1) : touchW a0 a1 b0 b1 c0 c1 d0 d1 = true ↔ Geo.Touch (a0,a1) (b0,b1) (c0,c1) (d0,d1):=by
 unfold touchW Geo.Touch
 rw [Bool.or_eq_true,Bool.or_eq_true,Bool.or_eq_true,Bool.or_eq_true,cross_iff ha hb hc hd,on_iff ha hb hc,on_iff ha hb hd,on_iff hc hd ha,on_iff hc hd hb]
/-- The corners of a valid polygon. -/
theorem ok_at {p : List S73} (h : (p.all fun s => okP s.f0 s.f1) = true) (i : Nat) (hi : i < p.length) : okP (p.getD i z73).f0 (p.getD i z73).f1 = true:=by
 rw [List.getD_eq_getElem?_getD,List.getElem?_eq_getElem hi]
 exact List.all_eq_true.1 h _ (List.getElem_mem hi)
theorem ivalid_of {p : List S73} (hV : Valid p) : Geo.IValid (ptsOf p):=by
 obtain ⟨h3,hn,hall,hg,_⟩:=hV
 have m : ∀ i,i % p.length < p.length:=fun i => Nat.mod_lt _ (by omega)
 have C : ∀ i,i < p.length → inC (p.getD i z73).f0 (p.getD i z73).f1:=fun i hi => inC_of_ok (ok_at hall i hi)
 refine ⟨by rw [ptsOf_length];exact h3,fun q hq => ?_,fun i hi => ?_⟩
 ·obtain ⟨s,hs,rfl⟩:=List.mem_map.1 hq
  obtain ⟨⟨a,b⟩,_⟩:=(okP_iff _ _).1 (List.all_eq_true.1 hall s hs)
  exact ⟨a,by show s.f0 < 100000;omega⟩
 ·rw [ptsOf_length] at hi ⊢
  obtain ⟨g1,g2⟩:=hg i hi
  rw [pt_of p i hi,pt_of p _ (m (i + 1)),pt_of p _ (m (i + 2))]
  unfold badAt at g1
  dsimp only at g1
  rw [Bool.or_eq_false_iff,Bool.or_eq_false_iff] at g1
  obtain ⟨b1,b2,b3⟩:=g1
  refine ⟨⟨?_,?_,?_⟩,fun j h1 h2 h4 => ?_⟩
  ·intro e
   unfold toPt at e
   have e1:=congrArg Prod.fst e
   have e2:=congrArg Prod.snd e
   simp only at e1 e2
   unfold same2 at b1
   rw [e1,e2] at b1
   simp at b1
  ·intro e
   have:=(on_iff (C i hi) (C _ (m (i + 1))) (C _ (m (i + 2)))).2 e
   rw [b2] at this;cases this
  ·intro e
   have:=(on_iff (C _ (m (i + 1))) (C _ (m (i + 2))) (C i hi)).2 e
   rw [b3] at this;cases this
  ·rw [pt_of p j h2,pt_of p _ (m (j + 1))]
   intro e
   have:=(touch_iff (C i hi) (C _ (m (i + 1))) (C j h2) (C _ (m (j + 1)))).2 e
   have g:=g2 j h1 h2 h4
   unfold meets at g
   dsimp only at g
   rw [g] at this;cases this
theorem sa_take (p : List S73) (h0 : 0 < p.length) : ∀ i,i ≤ p.length → Geo.sa (Geo.pe ((ptsOf p ++ [Geo.pt (ptsOf p) 0]).take (i + 1))) = areaTo p i
 | 0,_ => by
  cases p with
  | nil => simp at h0
  | cons a p => rfl
 | i + 1,hi => by
  have ih:=sa_take p h0 i (by omega)
  have hm:=Nat.mod_lt (i + 1) h0
  have len : (ptsOf p ++ [Geo.pt (ptsOf p) 0]).length = p.length + 1:=by rw [List.length_append,ptsOf_length];rfl
  have g1 : (ptsOf p ++ [Geo.pt (ptsOf p) 0])[i]? = some (Geo.pt (ptsOf p) i):=by
   rw [List.getElem?_append_left (by rw [ptsOf_length];omega),List.getElem?_eq_getElem (by rw [ptsOf_length];omega),Geo.pt_get _ _ (by rw [ptsOf_length];omega)]
  have g2 : (ptsOf p ++ [Geo.pt (ptsOf p) 0])[i + 1]? = some (Geo.pt (ptsOf p) ((i + 1) % p.length)):=by
   by_cases c : i + 1 < p.length
   ·rw [List.getElem?_append_left (by rw [ptsOf_length];omega),List.getElem?_eq_getElem (by rw [ptsOf_length];omega),Nat.mod_eq_of_lt c,Geo.pt_get _ _ (by rw [ptsOf_length];omega)]
   ·have : i + 1 = p.length:=by omega
    rw [List.getElem?_append_right (by rw [ptsOf_length];omega),ptsOf_length,this,Nat.sub_self,Nat.mod_self]
    rfl
  rw [List.take_add_one,List.take_add_one,g1,g2]
  rw [List.take_add_one,g1] at ih
  have e : ∀ (x : List Geo.Pt) (a b : Geo.Pt),x ++ (some a).toList ++ (some b).toList = x ++ a :: [b]:=by intro x a b;simp
  rw [e,Geo.pe_split,Geo.sa_append]
  have e' : ∀ (x : List Geo.Pt) (a : Geo.Pt),x ++ (some a).toList = x ++ [a]:=by intro x a;rfl
  rw [e'] at ih
  rw [ih,areaTo,pt_of p i (by omega),pt_of p _ hm]
  unfold crossT toPt
  simp [Geo.pe,Geo.sa]
theorem area_of (p : List S73) (h0 : 0 < p.length) : Geo.area (ptsOf p) = areaTo p p.length:=by
 have:=sa_take p h0 p.length (Nat.le_refl _)
 rw [List.take_of_length_le (by rw [List.length_append,ptsOf_length];exact Nat.le_refl _)] at this
 rw [← this]
 cases p with
 | nil => simp at h0
 | cons a p => rfl
/-- A valid polygon is simple and goes to the left around. -/
theorem simple_valid {p : List S73} (hV : Valid p) : Geo.Simple (ptsOf p) ∧ Geo.LL (ptsOf p) = true:=by
 have h:=Geo.simple_of (ivalid_of hV)
 refine ⟨h,Geo.ll_of_area h ?_⟩
 rw [area_of p (by have:=hV.1;omega)]
 exact hV.2.2.2.2

def inTriW (a0 a1 b0 b1 c0 c1 q0 q1 : Int) : Bool:=decide (sideW a0 a1 b0 b1 q0 q1 ≥ 0) && (decide (sideW b0 b1 c0 c1 q0 q1 ≥ 0) && decide (sideW c0 c1 a0 a1 q0 q1 ≥ 0))
theorem inTri_fold (x y z : Int) : (some x).bind (fun t => if t ≥ 0 then (some y).bind fun t => if t ≥ 0 then (some z).bind fun t => some (decide (t ≥ 0)) else some false else some false) = some (decide (x ≥ 0) && (decide (y ≥ 0) && decide (z ≥ 0))):=by
 by_cases h1 : x ≥ 0
 ·by_cases h2 : y ≥ 0
  ·simp [h1,h2]
  ·simp [h1,h2]
 ·simp [h1]
theorem impl_inTriangle_eq (a0 a1 b0 b1 c0 c1 q0 q1 : Int) : impl_inTriangle.f a0 a1 b0 b1 c0 c1 q0 q1 = some (inTriW a0 a1 b0 b1 c0 c1 q0 q1):=by
 unfold impl_inTriangle.f inTriW
 simp only [impl_side_eq]
 exact inTri_fold _ _ _
theorem spec_l04In_eq (a0 a1 b0 b1 c0 c1 q0 q1 : Int) : spec_l04In.f a0 a1 b0 b1 c0 c1 q0 q1 = some (inTriW a0 a1 b0 b1 c0 c1 q0 q1):=by
 unfold spec_l04In.f inTriW
 simp only [spec_side_eq]
 exact inTri_fold _ _ _

theorem tmP {i n : Nat} (hn : n ≤ 1000000000) (hi : i < n) : Int.tmod (wrap64 (wrap64 ((i : Int) + (n : Int)) - 1)) (n : Int) = (((i + n - 1) % n : Nat) : Int):=by
 rw [w64 (x:=(i : Int) + n) (by omega) (by omega),w64 (by omega) (by omega),Int.tmod_eq_emod_of_nonneg (by omega),Int.natCast_emod]
 congr 1
 omega
def triAt (p : List S73) (i j : Nat) : Bool:=inTriW (p.getD ((i + p.length - 1) % p.length) z73).f0 (p.getD ((i + p.length - 1) % p.length) z73).f1 (p.getD i z73).f0 (p.getD i z73).f1 (p.getD ((i + 1) % p.length) z73).f0 (p.getD ((i + 1) % p.length) z73).f1 (p.getD j z73).f0 (p.getD j z73).f1
def sideAt (p : List S73) (i : Nat) : Int:=sideW (p.getD ((i + p.length - 1) % p.length) z73).f0 (p.getD ((i + p.length - 1) % p.length) z73).f1 (p.getD i z73).f0 (p.getD i z73).f1 (p.getD ((i + 1) % p.length) z73).f0 (p.getD ((i + 1) % p.length) z73).f1
/-- The point i is an ear. -/
def IsEar (p : List S73) (i : Nat) : Prop:=sideAt p i = 1 ∧ ∀ m,m < p.length → m ≠ i → m ≠ (i + p.length - 1) % p.length → m ≠ (i + 1) % p.length → triAt p i m = false
theorem ear_loops (p : List S73) (hn : p.length ≤ 1000000000) (i : Nat) (hi : i < p.length) : ∀ (d j : Nat),p.length - j ≤ d → ∃ b : Bool,
  (∀ k,d < k → impl_ear.l0 k i (p.length : Int) p (p.length : Int) j (p.getD ((i + p.length - 1) % p.length) z73).f0 (p.getD ((i + p.length - 1) % p.length) z73).f1 (p.getD i z73).f0 (p.getD i z73).f1 (p.getD ((i + 1) % p.length) z73).f0 (p.getD ((i + 1) % p.length) z73).f1 = some b ∧
   spec_l04Ear.l0 k p i (p.length : Int) j (p.getD ((i + p.length - 1) % p.length) z73).f0 (p.getD ((i + p.length - 1) % p.length) z73).f1 (p.getD i z73).f0 (p.getD i z73).f1 (p.getD ((i + 1) % p.length) z73).f0 (p.getD ((i + 1) % p.length) z73).f1 = some b) ∧
  (b = true ↔ ∀ m,j ≤ m → m < p.length → m ≠ i → m ≠ (i + p.length - 1) % p.length → m ≠ (i + 1) % p.length → triAt p i m = false):=by
 intro d
 have fin : ∀ j,¬ j < p.length → ∃ b : Bool,(∀ k,0 < k → impl_ear.l0 k i (p.length : Int) p (p.length : Int) j (p.getD ((i + p.length - 1) % p.length) z73).f0 (p.getD ((i + p.length - 1) % p.length) z73).f1 (p.getD i z73).f0 (p.getD i z73).f1 (p.getD ((i + 1) % p.length) z73).f0 (p.getD ((i + 1) % p.length) z73).f1 = some b ∧
   spec_l04Ear.l0 k p i (p.length : Int) j (p.getD ((i + p.length - 1) % p.length) z73).f0 (p.getD ((i + p.length - 1) % p.length) z73).f1 (p.getD i z73).f0 (p.getD i z73).f1 (p.getD ((i + 1) % p.length) z73).f0 (p.getD ((i + 1) % p.length) z73).f1 = some b) ∧
   (b = true ↔ ∀ m,j ≤ m → m < p.length → m ≠ i → m ≠ (i + p.length - 1) % p.length → m ≠ (i + 1) % p.length → triAt p i m = false):=by
  intro j hj
  refine ⟨true,fun k hk => ?_,⟨fun _ m h1 h2 => absurd h2 (by omega),fun _ => rfl⟩⟩
  obtain ⟨k,rfl⟩ : ∃ m,k = m + 1:=⟨k - 1,by omega⟩
  simp only [impl_ear.l0,spec_l04Ear.l0]
  rw [if_neg (by omega),if_neg (by omega)]
  exact ⟨rfl,rfl⟩
 induction d with
 | zero =>
  intro j hj
  obtain ⟨b,h1,h2⟩:=fin j (by omega)
  exact ⟨b,fun k hk => h1 k (by omega),h2⟩
 | succ d ih =>
  intro j hj
  by_cases hlt : j < p.length
  ·obtain ⟨b,h1,h2⟩:=ih (j + 1) (by omega)
   by_cases c1 : j = i ∨ j = (i + p.length - 1) % p.length ∨ j = (i + 1) % p.length
   ·refine ⟨b,fun k hk => ?_,h2.trans ⟨fun h m a1 a2 a3 a4 a5 => ?_,fun h m a1 a2 a3 a4 a5 => h m (by omega) a2 a3 a4 a5⟩⟩
    ·obtain ⟨k,rfl⟩ : ∃ m,k = m + 1:=⟨k - 1,by omega⟩
     have:=h1 k (by omega)
     simp only [impl_ear.l0,spec_l04Ear.l0]
     rw [tmP hn hi,tm1 (by omega) hi,w1 (by omega)]
     have e1 : (j : Int) < (p.length : Int):=by omega
     have e2 : (0 : Int) ≤ (j : Int):=by omega
     have e3 : ¬ (p.length : Int) = 0:=by omega
     simp only [if_pos e1,if_pos e2,if_neg e3]
     by_cases a1 : (j : Int) = (i : Int)
     ·simp only [if_pos a1]
      exact this
     ·by_cases a2 : (j : Int) = (((i + p.length - 1) % p.length : Nat) : Int)
      ·simp only [if_neg a1,if_pos a2]
       exact this
      ·have a3 : (j : Int) = (((i + 1) % p.length : Nat) : Int):=by omega
       simp only [if_neg a1,if_neg a2,if_pos a3]
       exact this
    ·by_cases e : m = j
     ·exfalso
      rw [← e] at c1
      rcases c1 with c | c | c
      ·exact a3 c
      ·exact a4 c
      ·exact a5 c
     ·exact h m (by omega) a2 a3 a4 a5
   ·have c2 : j ≠ i ∧ j ≠ (i + p.length - 1) % p.length ∧ j ≠ (i + 1) % p.length:=⟨fun h => c1 (.inl h),fun h => c1 (.inr (.inl h)),fun h => c1 (.inr (.inr h))⟩
    clear c1
    refine ⟨if triAt p i j = true then false else b,fun k hk => ?_,?_⟩
    ·obtain ⟨k,rfl⟩ : ∃ m,k = m + 1:=⟨k - 1,by omega⟩
     have:=h1 k (by omega)
     simp only [impl_ear.l0,spec_l04Ear.l0]
     rw [tmP hn hi,tm1 (by omega) hi,w1 (by omega),rdN]
     have e1 : (j : Int) < (p.length : Int):=by omega
     have e2 : (0 : Int) ≤ (j : Int):=by omega
     have e3 : ¬ (p.length : Int) = 0:=by omega
     have a1 : ¬ (j : Int) = (i : Int):=by omega
     have a2 : ¬ (j : Int) = (((i + p.length - 1) % p.length : Nat) : Int):=by omega
     have a3 : ¬ (j : Int) = (((i + 1) % p.length : Nat) : Int):=by omega
     simp only [if_pos e1,if_pos e2,if_neg e3,if_neg a1,if_neg a2,if_neg a3]
     rw [impl_inTriangle_eq,spec_l04In_eq,this.1,this.2]
     unfold triAt
     simp only [Option.bind_some]
     constructor <;> split <;> rfl
    ·cases ht : triAt p i j with
     | true =>
      simp only [if_true]
      exact ⟨fun h => (by cases h),fun h => by rw [h j (Nat.le_refl _) hlt c2.1 c2.2.1 c2.2.2] at ht;cases ht⟩
     | false =>
      simp only [Bool.false_eq_true,if_false]
      rw [h2]
      refine ⟨fun h m a1 a2 a3 a4 a5 => ?_,fun h m a1 a2 a3 a4 a5 => h m (by omega) a2 a3 a4 a5⟩
      by_cases e : m = j
      ·rw [e];exact ht
      ·exact h m (by omega) a2 a3 a4 a5
  ·obtain ⟨b,h1,h2⟩:=fin j hlt
   exact ⟨b,fun k hk => h1 k (by omega),h2⟩
theorem ear_eq (p : List S73) (hn : p.length ≤ 1000000000) (i : Nat) (hi : i < p.length) : ∃ b : Bool,(∀ k,p.length < k → impl_ear.f k p i = some b ∧ spec_l04Ear.f k p i = some b) ∧ (b = true ↔ IsEar p i):=by
 obtain ⟨b,h1,h2⟩:=ear_loops p hn i hi p.length 0 (by omega)
 have m1:=Nat.mod_lt (i + 1) (show 0 < p.length by omega)
 have m2:=Nat.mod_lt (i + p.length - 1) (show 0 < p.length by omega)
 refine ⟨decide (sideAt p i = 1) && b,fun k hk => ?_,?_⟩
 ·have:=h1 k hk
  simp only [Int.natCast_zero] at this
  unfold impl_ear.f spec_l04Ear.f
  rw [tmP hn hi,tm1 (by omega) hi,if_neg (by omega),if_pos (by omega),if_pos (by omega),if_pos (by omega),if_pos (by omega),if_pos (by omega),if_pos (by omega),if_neg (by omega),if_pos (by omega),if_pos (by omega),if_pos (by omega),if_pos (by omega),if_pos (by omega),if_pos (by omega),rdN,rdN,rdN,impl_side_eq,spec_side_eq,this.1,this.2]
  unfold sideAt
  simp only [Option.bind_some]
  generalize sideW (p.getD ((i + p.length - 1) % p.length) z73).f0 (p.getD ((i + p.length - 1) % p.length) z73).f1 (p.getD i z73).f0 (p.getD i z73).f1 (p.getD ((i + 1) % p.length) z73).f0 (p.getD ((i + 1) % p.length) z73).f1 = s
  by_cases hs : s = 1
  ·rw [if_pos hs,decide_eq_true hs]
   exact ⟨rfl,rfl⟩
  ·rw [if_neg hs,decide_eq_false hs]
   exact ⟨rfl,rfl⟩
 ·rw [Bool.and_eq_true,decide_eq_true_eq,h2]
  exact ⟨fun h => ⟨h.1,fun m a => h.2 m (by omega) a⟩,fun h => ⟨h.1,fun m _ a => h.2 m a⟩⟩

/-- What is left while ears are cut off. -/
def Rest (p : List S73) : Prop:=p.length ≤ 24 ∧ (p.all fun s => okP s.f0 s.f1) = true ∧ Geo.Simple (ptsOf p) ∧ Geo.LL (ptsOf p) = true
theorem rest_valid {p : List S73} (hV : Valid p) : Rest p:=⟨hV.2.1,hV.2.2.1,simple_valid hV⟩
theorem rest_three {p : List S73} (h : Rest p) : 3 ≤ p.length:=by
 have:=h.2.2.1.1
 rw [ptsOf_length] at this
 exact this
theorem inC_at {p : List S73} (h : (p.all fun s => okP s.f0 s.f1) = true) (i : Nat) (hi : i < p.length) : inC (p.getD i z73).f0 (p.getD i z73).f1:=inC_of_ok (ok_at h i hi)
theorem inT_iff {a0 a1 b0 b1 c0 c1 q0 q1 : Int} (ha : inC a0 a1) (hb : inC b0 b1) (hc : inC c0 c1) (hq : inC q0 q1) : inTriW a0 a1 b0 b1 c0 c1 q0 q1 = true ↔ Geo.InT (a0,a1) (b0,b1) (c0,c1) (q0,q1):=by
 have s1:=(side_sign ha hb hq).2
 have s2:=(side_sign hb hc hq).2
 have s3:=(side_sign hc ha hq).2
 unfold inTriW Geo.InT
 rw [Bool.and_eq_true,Bool.and_eq_true,decide_eq_true_eq,decide_eq_true_eq,decide_eq_true_eq]
 exact and_congr ⟨fun h => by omega,fun h => by omega⟩ (and_congr ⟨fun h => by omega,fun h => by omega⟩ ⟨fun h => by omega,fun h => by omega⟩)
theorem ear_iff {p : List S73} (h : Rest p) (i : Nat) (hi : i < p.length) : IsEar p i ↔ Geo.EarI (ptsOf p) i:=by
 have h3:=rest_three h
 have m1 : (i + p.length - 1) % p.length < p.length:=Nat.mod_lt _ (by omega)
 have m2 : (i + 1) % p.length < p.length:=Nat.mod_lt _ (by omega)
 have C:=inC_at h.2.1
 unfold IsEar Geo.EarI
 rw [ptsOf_length,pt_of p i hi,pt_of p _ m1,pt_of p _ m2]
 refine and_congr ?_ ?_
 ·have s:=(side_sign (C _ m1) (C i hi) (C _ m2)).1
  have t:=sideW_three (p.getD ((i + p.length - 1) % p.length) z73).f0 (p.getD ((i + p.length - 1) % p.length) z73).f1 (p.getD i z73).f0 (p.getD i z73).f1 (p.getD ((i + 1) % p.length) z73).f0 (p.getD ((i + 1) % p.length) z73).f1
  unfold sideAt
  unfold toPt
  constructor
  ·intro e;exact s.1 (by omega)
  ·intro e;have:=s.2 e;omega
 ·refine forall_congr' fun m => forall_congr' fun hm => forall_congr' fun n1 => forall_congr' fun n2 => forall_congr' fun n3 => ?_
  rw [pt_of p m hm]
  unfold triAt
  rw [← Bool.not_eq_true]
  exact not_congr (inT_iff (C _ m1) (C i hi) (C _ m2) (C m hm))
theorem first_of (P : Nat → Prop) : ∀ n,(∃ i,i < n ∧ P i) → ∃ i,i < n ∧ P i ∧ ∀ j,j < i → ¬ P j
 | 0,⟨i,hi,_⟩ => absurd hi (Nat.not_lt_zero i)
 | n + 1,h => by
  by_cases c : ∃ i,i < n ∧ P i
  ·obtain ⟨i,h1,h2,h3⟩:=first_of P n c
   exact ⟨i,by omega,h2,h3⟩
  ·obtain ⟨i,h1,h2⟩:=h
   refine ⟨i,h1,h2,fun j hj hp => c ⟨j,by omega,hp⟩⟩
/-- The triangle at an ear. -/
def triOf (p : List S73) (i : Nat) : List S73:=[p.getD ((i + p.length - 1) % p.length) z73,p.getD i z73,p.getD ((i + 1) % p.length) z73]
theorem erase_pts (p : List S73) (i : Nat) : ptsOf (p.eraseIdx i) = (ptsOf p).eraseIdx i:=by
 unfold ptsOf
 rw [List.eraseIdx_eq_take_drop_succ,List.eraseIdx_eq_take_drop_succ,List.map_append,List.map_take,List.map_drop]
theorem rest_cut {p : List S73} (h : Rest p) (h4 : 4 ≤ p.length) {i : Nat} (hi : i < p.length) (he : IsEar p i) : Rest (p.eraseIdx i):=by
 obtain ⟨a,b⟩:=Geo.ear_cut h.2.2.1 h.2.2.2 (by rw [ptsOf_length];exact h4) (by rw [ptsOf_length];exact hi) ((ear_iff h i hi).1 he)
 refine ⟨?_,?_,by rw [erase_pts];exact a,by rw [erase_pts];exact b⟩
 ·rw [List.length_eraseIdx_of_lt hi]
  have:=h.1
  omega
 ·rw [List.all_eq_true]
  intro s hs
  exact List.all_eq_true.1 h.2.1 s (List.mem_of_mem_eraseIdx hs)
theorem rest_ear {p : List S73} (h : Rest p) : ∃ i,i < p.length ∧ IsEar p i ∧ ∀ j,j < i → ¬ IsEar p j:=by
 obtain ⟨i,h1,h2⟩:=Geo.ear_exists h.2.2.1 h.2.2.2
 rw [ptsOf_length] at h1
 exact first_of (IsEar p) p.length ⟨i,h1,(ear_iff h i h1).2 h2⟩
theorem del_eq (p : List S73) (i : Nat) (hi : i < p.length) (hn : p.length ≤ 24) : impl_Point_112.f p i (wrap64 ((i : Int) + 1)) = some (p.eraseIdx i):=by
 unfold impl_Point_112.f
 rw [w1 (by omega),if_pos (by omega),if_pos (by omega),if_pos (by omega),Int.toNat_natCast]
theorem impl_find {p : List S73} (hn : p.length ≤ 24) (h3 : 3 ≤ p.length) {i : Nat} (hi : i < p.length) (he : IsEar p i) (hf : ∀ j,j < i → ¬ IsEar p j) (acc : List (List S73)) (ha : acc.length ≤ 1000) (x6 : Int) :
  ∀ (d j k : Nat),j + d = i → 30 + d ≤ k → impl_triangles.l1 k acc p (p.length : Int) x6 (p.length : Int) j = impl_triangles.l0 (k - d - 1) (acc ++ [triOf p i]) (p.eraseIdx i):=by
 have m1 : (i + p.length - 1) % p.length < p.length:=Nat.mod_lt _ (by omega)
 have m2 : (i + 1) % p.length < p.length:=Nat.mod_lt _ (by omega)
 intro d
 induction d with
 | zero =>
  intro j k hj hk
  obtain rfl : j = i:=by omega
  obtain ⟨k,rfl⟩ : ∃ q,k = q + 1:=⟨k - 1,by omega⟩
  obtain ⟨b,hb,hbe⟩:=ear_eq p (by omega) j hi
  have hbt:=hbe.2 he
  subst hbt
  rw [impl_triangles.l1,if_pos (by omega),(hb k (by omega)).1,Option.bind_some,if_pos rfl,if_neg (by omega),if_neg (by omega),tmP (by omega) hi,tm1 (by omega) hi,if_pos (by omega),if_pos (by omega),if_pos (by omega),if_pos (by omega),if_pos (by omega),if_pos (by omega),if_pos (by omega),del_eq p j hi hn,Option.bind_some,rdN,rdN,rdN,show k + 1 - 0 - 1 = k by omega]
  rfl
 | succ d ih =>
  intro j k hj hk
  obtain ⟨k,rfl⟩ : ∃ q,k = q + 1:=⟨k - 1,by omega⟩
  obtain ⟨b,hb,hbe⟩:=ear_eq p (by omega) j (by omega)
  have hbf : b = false:=by
   cases b with
   | false => rfl
   | true => exact absurd (hbe.1 rfl) (hf j (by omega))
  subst hbf
  rw [impl_triangles.l1,if_pos (by omega),(hb k (by omega)).1,Option.bind_some,if_neg (by decide),w1 (by omega),ih (j + 1) k (by omega) (by omega),show k + 1 - (d + 1) - 1 = k - d - 1 by omega]
theorem spec_find {p : List S73} (hn : p.length ≤ 24) (h3 : 3 ≤ p.length) {i : Nat} (hi : i < p.length) (he : IsEar p i) (hf : ∀ j,j < i → ¬ IsEar p j) (acc : List (List S73)) (ha : acc.length ≤ 1000) :
  ∀ (d j k : Nat),j + d = i → 30 + d ≤ k → spec_l04Triangles.l1 k p acc (p.length : Int) j = spec_l04Triangles.l0 (k - d - 1) (p.eraseIdx i) (acc ++ [triOf p i]):=by
 have m1 : (i + p.length - 1) % p.length < p.length:=Nat.mod_lt _ (by omega)
 have m2 : (i + 1) % p.length < p.length:=Nat.mod_lt _ (by omega)
 have wn : wrap64 ((p.length : Int) - 1) = (p.length : Int) - 1:=w64 (by omega) (by omega)
 have lt : (p.take i).length ≤ 24:=by rw [List.length_take];omega
 have ld : (p.drop (i + 1)).length ≤ 24:=by rw [List.length_drop];omega
 intro d
 induction d with
 | zero =>
  intro j k hj hk
  obtain rfl : j = i:=by omega
  obtain ⟨k,rfl⟩ : ∃ q,k = q + 1:=⟨k - 1,by omega⟩
  obtain ⟨b,hb,hbe⟩:=ear_eq p (by omega) j hi
  have hbt:=hbe.2 he
  subst hbt
  rw [spec_l04Triangles.l1,wn]
  by_cases c : (j : Int) < (p.length : Int) - 1
  ·rw [if_pos c,(hb k (by omega)).2,Option.bind_some,if_pos rfl,if_neg (by omega),tmP (by omega) hi,tm1 (by omega) hi,if_pos (by omega),if_pos (by omega),if_pos (by omega),if_pos (by omega),if_pos (by omega),if_pos (by omega),if_pos (by omega),Option.bind_some,if_pos (by omega),Option.bind_some,Int.toNat_natCast,List.nil_append,if_pos (by simp only [List.length_nil];omega),Option.bind_some,w1 (by omega),if_pos (by omega),if_pos (by omega),Option.bind_some,Int.toNat_natCast,if_pos (by omega),rdN,rdN,rdN,show k + 1 - 0 - 1 = k by omega,← List.eraseIdx_eq_take_drop_succ]
   rfl
  ·rw [if_neg c,if_neg (by omega),tmP (by omega) hi,tm1 (by omega) hi,if_pos (by omega),if_pos (by omega),if_pos (by omega),if_pos (by omega),if_pos (by omega),if_pos (by omega),if_pos (by omega),Option.bind_some,if_pos (by omega),Option.bind_some,Int.toNat_natCast,List.nil_append,if_pos (by simp only [List.length_nil];omega),Option.bind_some,w1 (by omega),if_pos (by omega),if_pos (by omega),Option.bind_some,Int.toNat_natCast,if_pos (by omega),rdN,rdN,rdN,show k + 1 - 0 - 1 = k by omega,← List.eraseIdx_eq_take_drop_succ]
   rfl
 | succ d ih =>
  intro j k hj hk
  obtain ⟨k,rfl⟩ : ∃ q,k = q + 1:=⟨k - 1,by omega⟩
  obtain ⟨b,hb,hbe⟩:=ear_eq p (by omega) j (by omega)
  have hbf : b = false:=by
   cases b with
   | false => rfl
   | true => exact absurd (hbe.1 rfl) (hf j (by omega))
  subst hbf
  rw [spec_l04Triangles.l1,wn,if_pos (by omega),(hb k (by omega)).2,Option.bind_some,if_neg (by decide),w1 (by omega),ih (j + 1) k (by omega) (by omega),show k + 1 - (d + 1) - 1 = k - d - 1 by omega]
/-- A triangle of corners of p, to the left around. -/
def TriIn (p : List S73) (t : List S73) : Prop:=∃ a b c,t = [a,b,c] ∧ a ∈ p ∧ b ∈ p ∧ c ∈ p ∧ 0 < Geo.cr (toPt a) (toPt b) (toPt c)
theorem getD_mem (p : List S73) (i : Nat) (hi : i < p.length) : p.getD i z73 ∈ p:=by
 rw [List.getD_eq_getElem?_getD,List.getElem?_eq_getElem hi]
 exact List.getElem_mem hi
theorem tri_ear {p : List S73} (h : Rest p) {i : Nat} (hi : i < p.length) (he : IsEar p i) : TriIn p (triOf p i):=by
 have h3:=rest_three h
 have m1 : (i + p.length - 1) % p.length < p.length:=Nat.mod_lt _ (by omega)
 have m2 : (i + 1) % p.length < p.length:=Nat.mod_lt _ (by omega)
 have hp:=((ear_iff h i hi).1 he).1
 rw [ptsOf_length,pt_of p i hi,pt_of p _ m1,pt_of p _ m2] at hp
 exact ⟨_,_,_,rfl,getD_mem p _ m1,getD_mem p i hi,getD_mem p _ m2,hp⟩
theorem tri_last {p : List S73} (h : Rest p) (h3 : p.length = 3) : TriIn p p:=by
 obtain ⟨i,hi,he,_⟩:=rest_ear h
 obtain ⟨x,y,z,e,hx,hy,hz,hc⟩:=tri_ear h hi he
 match p,h3 with
 | [a,b,c],_ =>
  refine ⟨a,b,c,rfl,by simp,by simp,by simp,?_⟩
  obtain rfl | rfl | rfl : i = 0 ∨ i = 1 ∨ i = 2:=by simp only [List.length_cons,List.length_nil] at hi;omega
  ·rw [show triOf [a,b,c] 0 = [c,a,b] by simp [triOf]] at e
   injection e with e1 e2;injection e2 with e2 e3;injection e3 with e3 _
   subst e1;subst e2;subst e3
   rw [← Geo.cr_rot] at hc
   exact hc
  ·rw [show triOf [a,b,c] 1 = [a,b,c] by simp [triOf]] at e
   injection e with e1 e2;injection e2 with e2 e3;injection e3 with e3 _
   subst e1;subst e2;subst e3
   exact hc
  ·rw [show triOf [a,b,c] 2 = [b,c,a] by simp [triOf]] at e
   injection e with e1 e2;injection e2 with e2 e3;injection e3 with e3 _
   subst e1;subst e2;subst e3
   rw [Geo.cr_rot] at hc
   exact hc
theorem tri_loop : ∀ (d : Nat) (p : List S73) (acc : List (List S73)),p.length = d + 3 → Rest p → acc.length + d ≤ 100 → ∃ ts : List (List S73),ts.length = acc.length + d + 1 ∧ (∀ t ∈ ts,t ∈ acc ∨ TriIn p t) ∧
  ∀ k,60 * (d + 1) ≤ k → spec_l04Triangles.l0 k p acc = some ts ∧ impl_triangles.l0 k acc p = some ts:=by
 intro d
 induction d with
 | zero =>
  intro p acc hl h ha
  refine ⟨acc ++ [p],by simp,fun t ht => ?_,fun k hk => ?_⟩
  ·rcases List.mem_append.1 ht with h1 | h1
   ·exact .inl h1
   ·rw [List.mem_singleton] at h1
    subst h1
    exact .inr (tri_last h hl)
  ·obtain ⟨k,rfl⟩ : ∃ q,k = q + 1:=⟨k - 1,by omega⟩
   rw [spec_l04Triangles.l0,impl_triangles.l0,if_neg (by omega),if_neg (by omega),Option.bind_some,if_pos (by simp only [List.length_nil];omega),if_pos (by omega),if_pos (by omega)]
   exact ⟨rfl,rfl⟩
 | succ d ih =>
  intro p acc hl h ha
  obtain ⟨i,hi,he,hf⟩:=rest_ear h
  obtain ⟨ts,t1,t2,t3⟩:=ih (p.eraseIdx i) (acc ++ [triOf p i]) (by rw [List.length_eraseIdx_of_lt hi];omega) (rest_cut h (by omega) hi he) (by rw [List.length_append,List.length_singleton];omega)
  have hn:=h.1
  refine ⟨ts,by rw [t1,List.length_append,List.length_singleton];omega,fun t ht => ?_,fun k hk => ?_⟩
  ·rcases t2 t ht with h1 | ⟨x,y,z,e,hx,hy,hz,hc⟩
   ·rcases List.mem_append.1 h1 with h1 | h1
    ·exact .inl h1
    ·rw [List.mem_singleton] at h1
     subst h1
     exact .inr (tri_ear h hi he)
   ·exact .inr ⟨x,y,z,e,List.mem_of_mem_eraseIdx hx,List.mem_of_mem_eraseIdx hy,List.mem_of_mem_eraseIdx hz,hc⟩
  ·obtain ⟨k,rfl⟩ : ∃ q,k = q + 1:=⟨k - 1,by omega⟩
   have z0 : ((0 : Nat) : Int) = 0:=rfl
   have s1:=spec_find hn (by omega) hi he hf acc (by omega) i 0 k (by omega) (by omega)
   have s2:=impl_find hn (by omega) hi he hf acc (by omega) (-1) i 0 k (by omega) (by omega)
   rw [z0] at s1 s2
   rw [spec_l04Triangles.l0,impl_triangles.l0,if_pos (by omega),if_pos (by omega),s1,s2]
   exact t3 _ (by omega)
/-- Both cut a valid polygon into the same triangles. -/
theorem triangles_eq {p : List S73} (hV : Valid p) : ∃ ts : List (List S73),ts.length ≤ 22 ∧ (∀ t ∈ ts,TriIn p t) ∧ ∀ k,1500 ≤ k → spec_l04Triangles.f k p = some ts ∧ impl_triangles.f k p = some ts:=by
 have hn:=hV.2.1
 have h3:=hV.1
 obtain ⟨ts,t1,t2,t3⟩:=tri_loop (p.length - 3) p [] (by omega) (rest_valid hV) (by simp only [List.length_nil];omega)
 refine ⟨ts,by simp only [List.length_nil] at t1;omega,fun t ht => (t2 t ht).elim (fun h => absurd h (by simp)) (fun h => h),fun k hk => ?_⟩
 unfold spec_l04Triangles.f impl_triangles.f impl_Point_110.f
 rw [Option.bind_some,if_pos (by simp only [List.length_nil];omega),if_pos (by omega),Option.bind_some]
 exact t3 k (by omega)

theorem eqPoint_self (x y : Int) : laws_eqPoint.f x y x y = some true:=by
 unfold laws_eqPoint.f
 rw [if_pos rfl,if_pos rfl]
theorem eqPointS_loop (l : List S73) (h : l.length ≤ 1000000000) : ∀ (d k i : Nat),l.length - i ≤ d → d < k → laws_eqPointS.l0 k l l i = some true
 | d,0,i,_,h2 => absurd h2 (by omega)
 | d,k + 1,i,h1,h2 => by
  simp only [laws_eqPointS.l0]
  by_cases hi : i < l.length
  ·rw [if_pos (by omega),if_pos (by omega),if_pos (by omega),eqPoint_self,Option.bind_some,if_pos rfl,w1 (by omega)]
   exact eqPointS_loop l h (d - 1) k (i + 1) (by omega) (by omega)
  ·rw [if_neg (by omega)]
theorem eqPointS_self (l : List S73) (h : l.length ≤ 1000000000) (k : Nat) (hk : l.length < k) : laws_eqPointS.f k l l = some true:=by
 unfold laws_eqPointS.f
 rw [if_pos rfl]
 exact eqPointS_loop l h l.length k 0 (by omega) hk

/-- The law's points as the program's. -/
def conv (l : List S75) : List S73:=l.map fun s => ⟨s.f0,s.f1⟩
theorem conv_length (l : List S75) : (conv l).length = l.length:=by
 unfold conv
 rw [List.length_map]
theorem sz_small (l : List S75) (h : l.length ≤ 1048576) : laws_szPointS.f l 1048576 = some (1048576 - (l.length : Int)):=by
 unfold laws_szPointS.f
 rw [w64 (by omega) (by omega),if_neg (by omega)]
theorem sz_large (l : List S75) (hm : l.length ≤ 9223372036854775807) (h : 1048576 < l.length) : laws_szPointS.f l 1048576 = some (-1):=by
 unfold laws_szPointS.f
 rw [w64 (by omega) (by omega),if_pos (by omega)]
theorem rdLN (l : List S75) (j : Nat) : rd_T75 l (j : Int) = l.getD j z75:=by
 unfold rd_T75
 rw [Int.toNat_natCast]
theorem toPointS_loop (l : List S75) (h : l.length ≤ 1048576) : ∀ (d k i : Nat) (x : List S73),i ≤ l.length → l.length - i ≤ d → d < k → x.length = l.length → laws_toPointS.l0 k l x i = some (x.take i ++ (conv l).drop i)
 | d,0,i,x,_,_,h2,_ => absurd h2 (by omega)
 | d,k + 1,i,x,h0,h1,h2,hx => by
  simp only [laws_toPointS.l0,laws_toPoint.f]
  by_cases hi : i < l.length
  ·rw [if_pos (by omega),if_pos (by omega),Option.bind_some,if_pos (by omega),w1 (by omega),toPointS_loop l h (d - 1) k (i + 1) _ (by omega) (by omega) (by omega) (by rw [List.length_set,hx]),rdLN]
   have e : l.getD i z75 = l[i]:=by
    rw [List.getD_eq_getElem?_getD,List.getElem?_eq_getElem hi]
    rfl
   rw [e,Int.toNat_natCast,List.take_succ_eq_append_getElem (by rw [List.length_set,hx];exact hi),List.getElem_set_self,List.take_set_of_le (Nat.le_refl _),List.append_assoc]
   congr 2
   rw [List.drop_eq_getElem_cons (i:=i) (by rw [conv_length];exact hi)]
   unfold conv
   rw [List.getElem_map]
   rfl
  ·rw [if_neg (by omega),List.take_of_length_le (by omega),List.drop_eq_nil_of_le (by rw [conv_length];omega),List.append_nil]
theorem toPointS_eq (l : List S75) (h : l.length ≤ 1048576) (k : Nat) (hk : l.length < k) : laws_toPointS.f k l = some (conv l):=by
 unfold laws_toPointS.f
 rw [if_pos (by omega),if_pos (by omega)]
 have:=toPointS_loop l h l.length k 0 (List.replicate ((l.length : Int) : Int).toNat z73) (by omega) (by omega) hk (by rw [List.length_replicate,Int.toNat_natCast])
 simp only [Int.natCast_zero] at this
 rw [this,List.take_zero,List.nil_append,List.drop_zero]

theorem back_eq (l : List S75) (h : l.length ≤ 1048576) (k : Nat) (hk : l.length < k) : ((laws_toPointS.f k l).bind fun t => (laws_eqPointS.f k (conv l) t).bind fun b => if b = true then some true else some false) = some true:=by
 rw [toPointS_eq l h k hk,Option.bind_some,eqPointS_self (conv l) (by rw [conv_length];omega) k (by rw [conv_length];omega)]
 rfl

theorem p_ext {x y : S73} (h0 : x.f0 = y.f0) (h1 : x.f1 = y.f1) : x = y:=by
 cases x
 cases y
 simp_all
theorem getD_set_self (x : List S73) (i : Nat) (v : S73) (h : i < x.length) : (x.set i v).getD i z73 = v:=by
 rw [List.getD_eq_getElem?_getD,List.getElem?_set_self h]
 rfl
theorem getD_set_ne (x : List S73) (i j : Nat) (v : S73) (h : i ≠ j) : (x.set i v).getD j z73 = x.getD j z73:=by
 rw [List.getD_eq_getElem?_getD,List.getElem?_set_ne h,List.getD_eq_getElem?_getD]
theorem mark_loop (n : Nat) (hn : n ≤ 1000000000) : ∀ (d k i : Nat) (x : List S73),x.length = n → i ≤ n → n - i ≤ d → d < k → (∀ j,j < i → x.getD j z73 = ⟨1 + 2 * (j : Int),1 + 2 * (j : Int) + 1⟩) →
  ∃ m : List S73,laws_markPointS.l0 k x (1 + 2 * (i : Int)) i = some (1 + 2 * (n : Int),m) ∧ m.length = n ∧ ∀ j,j < n → m.getD j z73 = ⟨1 + 2 * (j : Int),1 + 2 * (j : Int) + 1⟩
 | d,0,i,x,_,_,_,h,_ => absurd h (by omega)
 | d,k + 1,i,x,hx,hi,h1,h2,hm => by
  simp only [laws_markPointS.l0]
  by_cases hlt : i < n
  ·rw [if_pos (by omega),if_pos (by omega),Option.bind_some,Int.toNat_natCast,rdN,rdN,getD_set_self x i _ (by omega),w1 (by omega),w64 (x:=1 + 2 * (i : Int) + 1) (by omega) (by omega),w64 (x:=1 + 2 * (i : Int) + 1 + 1) (by omega) (by omega)]
   have:=mark_loop n hn (d - 1) k (i + 1) ((x.set i ⟨1 + 2 * (i : Int),(x.getD i z73).f1⟩).set i ⟨1 + 2 * (i : Int),1 + 2 * (i : Int) + 1⟩) (by simp [hx]) (by omega) (by omega) (by omega) (fun j hj => by
    by_cases e : i = j
    ·subst e
     rw [getD_set_self _ _ _ (by simp;omega)]
    ·rw [getD_set_ne _ _ _ _ e,getD_set_ne _ _ _ _ e]
     exact hm j (by omega))
   rw [show (1 + 2 * (i : Int) + 1 + 1) = 1 + 2 * ((i + 1 : Nat) : Int) by omega]
   exact this
  ·have e : i = n:=by omega
   subst e
   exact ⟨x,by rw [if_neg (by omega)],hx,hm⟩
theorem marked (x : List S73) (hn : x.length ≤ 1000000000) : ∃ (n : Int) (m : List S73),0 < n ∧ (∀ k,x.length < k → laws_markPointS.f k x 1 = some (n,m)):=by
 obtain ⟨m,h1,h2,h3⟩:=mark_loop x.length hn x.length (x.length + 1) 0 x rfl (by omega) (by omega) (by omega) (fun j hj => absurd hj (by omega))
 refine ⟨1 + 2 * (x.length : Int),m,by omega,fun k hk => ?_⟩
 unfold laws_markPointS.f
 exact at_rounds (fun k => laws_markPointS.mono_l k _ _ _) (show x.length + 1 ≤ k by omega) h1

theorem pmark_at (n : Nat) (hn : n ≤ 1000000) (a : Int) (ha : 0 ≤ a ∧ a ≤ 1000000000000) : ∀ (d i : Nat) (x : List S73),x.length = n → i ≤ n → n - i ≤ d → (∀ j,j < i → x.getD j z73 = ⟨a + 2 * (j : Int),a + 2 * (j : Int) + 1⟩) →
  ∃ m : List S73,m.length = n ∧ (∀ j,j < n → m.getD j z73 = ⟨a + 2 * (j : Int),a + 2 * (j : Int) + 1⟩) ∧ ∀ k,d < k → laws_markPointS.l0 k x (a + 2 * (i : Int)) i = some (a + 2 * (n : Int),m):=by
 intro d
 induction d with
 | zero =>
  intro i x hx hi h1 hm
  obtain rfl : i = n:=by omega
  refine ⟨x,hx,hm,fun k hk => ?_⟩
  obtain ⟨k,rfl⟩ : ∃ q,k = q + 1:=⟨k - 1,by omega⟩
  simp only [laws_markPointS.l0]
  rw [if_neg (by omega)]
 | succ d ih =>
  intro i x hx hi h1 hm
  by_cases hlt : i < n
  ·obtain ⟨m,g1,g2,g3⟩:=ih (i + 1) ((x.set i ⟨a + 2 * (i : Int),(x.getD i z73).f1⟩).set i ⟨a + 2 * (i : Int),a + 2 * (i : Int) + 1⟩) (by simp [hx]) (by omega) (by omega) (fun j hj => by
    by_cases e : i = j
    ·subst e
     rw [getD_set_self _ _ _ (by simp;omega)]
    ·rw [getD_set_ne _ _ _ _ e,getD_set_ne _ _ _ _ e]
     exact hm j (by omega))
   refine ⟨m,g1,g2,fun k hk => ?_⟩
   obtain ⟨k,rfl⟩ : ∃ q,k = q + 1:=⟨k - 1,by omega⟩
   simp only [laws_markPointS.l0]
   rw [if_pos (by omega),if_pos (by omega),Option.bind_some,Int.toNat_natCast,rdN,rdN,getD_set_self x i _ (by omega),w1 (by omega),w64 (x:=a + 2 * (i : Int) + 1) (by omega) (by omega),w64 (x:=a + 2 * (i : Int) + 1 + 1) (by omega) (by omega)]
   have:=g3 k (by omega)
   rw [show a + 2 * (i : Int) + 1 + 1 = a + 2 * ((i + 1 : Nat) : Int) by omega]
   exact this
  ·obtain rfl : i = n:=by omega
   refine ⟨x,hx,hm,fun k hk => ?_⟩
   obtain ⟨k,rfl⟩ : ∃ q,k = q + 1:=⟨k - 1,by omega⟩
   simp only [laws_markPointS.l0]
   rw [if_neg (by omega)]
theorem pheld_at (n : Nat) (hn : n ≤ 1000000) (a : Int) (ha : 0 ≤ a ∧ a ≤ 1000000000000) (m : List S73) (hl : m.length = n) (hm : ∀ j,j < n → m.getD j z73 = ⟨a + 2 * (j : Int),a + 2 * (j : Int) + 1⟩) : ∀ (d k i : Nat),i ≤ n → n - i ≤ d → d < k →
  laws_heldPointS.l0 k m (a + 2 * (i : Int)) i = some (a + 2 * (n : Int))
 | d,0,i,_,_,h => absurd h (by omega)
 | 0,k + 1,i,hi,h1,_ => by
  obtain rfl : i = n:=by omega
  simp only [laws_heldPointS.l0]
  rw [if_neg (by omega)]
 | d + 1,k + 1,i,hi,h1,h2 => by
  simp only [laws_heldPointS.l0]
  by_cases hlt : i < n
  ·have e:=hm i hlt
   rw [if_pos (by omega),if_pos (by omega),rdN,e]
   simp only
   rw [if_pos trivial,w64 (x:=a + 2 * (i : Int) + 1) (by omega) (by omega),if_pos rfl,w1 (by omega),w64 (by omega) (by omega),show a + 2 * (i : Int) + 1 + 1 = a + 2 * ((i + 1 : Nat) : Int) by omega]
   exact pheld_at n hn a ha m hl hm d k (i + 1) (by omega) (by omega) (by omega)
  ·obtain rfl : i = n:=by omega
   rw [if_neg (by omega)]
theorem pmark_held_at (x : List S73) (hn : x.length ≤ 1000000) (a : Int) (ha : 0 ≤ a ∧ a ≤ 1000000000000) : ∃ m : List S73,m.length = x.length ∧ (∀ k,x.length < k → laws_markPointS.f k x a = some (a + 2 * x.length,m)) ∧ (∀ k,x.length < k → laws_heldPointS.f k m a = some (a + 2 * x.length)):=by
 have z0 : a + 2 * ((0 : Nat) : Int) = a:=by omega
 obtain ⟨m,g1,g2,g3⟩:=pmark_at x.length hn a ha x.length 0 x rfl (by omega) (by omega) (fun j hj => absurd hj (by omega))
 refine ⟨m,g1,fun k hk => ?_,fun k hk => ?_⟩
 ·unfold laws_markPointS.f
  have:=g3 k hk
  rw [z0] at this
  exact this
 ·unfold laws_heldPointS.f
  have:=pheld_at x.length hn a ha m g1 g2 x.length k 0 (by omega) (by omega) hk
  rw [z0] at this
  exact this
theorem rdP_nat (x : List (List S73)) (j : Nat) : rd_L3 x (j : Int) = x.getD j []:=by
 unfold rd_L3
 rw [Int.toNat_natCast]
theorem getQ_set_self (x : List (List S73)) (i : Nat) (v : List S73) (h : i < x.length) : (x.set i v).getD i [] = v:=by
 rw [List.getD_eq_getElem?_getD,List.getElem?_set_self h]
 rfl
theorem getQ_set_ne (x : List (List S73)) (i j : Nat) (v : List S73) (h : i ≠ j) : (x.set i v).getD j [] = x.getD j []:=by
 rw [List.getD_eq_getElem?_getD,List.getElem?_set_ne h,List.getD_eq_getElem?_getD]
/-- All rows are short. -/
def ShortP (x : List (List S73)) : Prop:=∀ i,i < x.length → (x.getD i []).length ≤ 1000
theorem eqPointSS_loop (x : List (List S73)) (hn : x.length ≤ 1000000) (hs : ShortP x) : ∀ (d k i : Nat),x.length - i ≤ d → d + 1001 < k → laws_eqPointSS.l0 k x x i = some true
 | d,0,i,_,h => absurd h (by omega)
 | 0,k + 1,i,hi,_ => by
  simp only [laws_eqPointSS.l0]
  rw [if_neg (by omega)]
 | d + 1,k + 1,i,hi,h => by
  simp only [laws_eqPointSS.l0]
  by_cases c : i < x.length
  ·rw [if_pos (by omega),if_pos (by omega),if_pos (by omega),rdP_nat,eqPointS_self _ (by have:=hs i c;omega) k (by have:=hs i c;omega),Option.bind_some,if_pos rfl,w1 (by omega)]
   exact eqPointSS_loop x hn hs d k (i + 1) (by omega) (by omega)
  ·rw [if_neg (by omega)]
theorem eqPointSS_self (x : List (List S73)) (hn : x.length ≤ 1000000) (hs : ShortP x) (k : Nat) (hk : x.length + 1001 < k) : laws_eqPointSS.f k x x = some true:=by
 unfold laws_eqPointSS.f
 rw [if_pos rfl]
 exact eqPointSS_loop x hn hs x.length k 0 (by omega) hk
theorem qmark_loop (N : Nat) (hN : N ≤ 1000000) : ∀ (d i : Nat) (x : List (List S73)) (a : Int),x.length = N → i ≤ N → N - i ≤ d → ShortP x → 0 ≤ a → a ≤ 2000 * i + 1 → ∃ (n : Int) (m : List (List S73)),m.length = N ∧ (∀ j,j < i → m.getD j [] = x.getD j []) ∧ a ≤ n ∧
  (∀ k,d + 1001 < k → laws_markPointSS.l0 k x a i = some (n,m)) ∧ (∀ k,d + 1001 < k → laws_heldPointSS.l0 k m a i = some n):=by
 intro d
 induction d with
 | zero =>
  intro i x a hx hi hd hs h0 h1
  refine ⟨a,x,hx,fun _ _ => rfl,Int.le_refl _,fun k hk => ?_,fun k hk => ?_⟩
  ·obtain ⟨k,rfl⟩ : ∃ q,k = q + 1:=⟨k - 1,by omega⟩
   simp only [laws_markPointSS.l0]
   rw [if_neg (by omega)]
  ·obtain ⟨k,rfl⟩ : ∃ q,k = q + 1:=⟨k - 1,by omega⟩
   simp only [laws_heldPointSS.l0]
   rw [if_neg (by omega)]
 | succ d ih =>
  intro i x a hx hi hd hs h0 h1
  by_cases c : i < N
  ·have hl:=hs i (by omega)
   obtain ⟨mi,e0,e1,e2⟩:=pmark_held_at (x.getD i []) (by omega) a (by omega)
   have hs' : ShortP (x.set i mi):=by
    intro j hj
    rw [List.length_set] at hj
    by_cases q : i = j
    ·subst q
     rw [getQ_set_self _ _ _ hj]
     omega
    ·rw [getQ_set_ne _ _ _ _ q]
     exact hs j hj
   obtain ⟨n,m,g1,g2,g3,g4,g5⟩:=ih (i + 1) (x.set i mi) (a + 2 * (x.getD i []).length) (by rw [List.length_set];exact hx) (by omega) (by omega) hs' (by omega) (by omega)
   have gi : m.getD i [] = mi:=by rw [g2 i (by omega),getQ_set_self _ _ _ (by omega)]
   refine ⟨n,m,g1,fun j hj => ?_,by omega,fun k hk => ?_,fun k hk => ?_⟩
   ·rw [g2 j (by omega),getQ_set_ne _ _ _ _ (by omega)]
   ·obtain ⟨k,rfl⟩ : ∃ q,k = q + 1:=⟨k - 1,by omega⟩
    simp only [laws_markPointSS.l0]
    rw [if_pos (by omega),if_pos (by omega),Int.toNat_natCast,e1 k (by omega),Option.bind_some,w1 (by omega)]
    exact g4 k (by omega)
   ·obtain ⟨k,rfl⟩ : ∃ q,k = q + 1:=⟨k - 1,by omega⟩
    simp only [laws_heldPointSS.l0]
    rw [if_pos (by omega),if_pos (by omega),rdP_nat,gi,e2 k (by omega),Option.bind_some,if_neg (by omega),w1 (by omega)]
    exact g5 k (by omega)
  ·refine ⟨a,x,hx,fun _ _ => rfl,Int.le_refl _,fun k hk => ?_,fun k hk => ?_⟩
   ·obtain ⟨k,rfl⟩ : ∃ q,k = q + 1:=⟨k - 1,by omega⟩
    simp only [laws_markPointSS.l0]
    rw [if_neg (by omega)]
   ·obtain ⟨k,rfl⟩ : ∃ q,k = q + 1:=⟨k - 1,by omega⟩
    simp only [laws_heldPointSS.l0]
    rw [if_neg (by omega)]
theorem qmark_held (x : List (List S73)) (hn : x.length ≤ 1000000) (hs : ShortP x) : ∃ (n : Int) (m : List (List S73)),0 < n ∧ (∀ k,x.length + 1001 < k → laws_markPointSS.f k x 1 = some (n,m)) ∧ (∀ k,x.length + 1001 < k → laws_heldPointSS.f k m 1 = some n):=by
 obtain ⟨n,m,g1,_,g3,g4,g5⟩:=qmark_loop x.length hn x.length 0 x 1 rfl (by omega) (by omega) hs (by omega) (by omega)
 refine ⟨n,m,by omega,fun k hk => ?_,fun k hk => ?_⟩
 ·unfold laws_markPointSS.f
  exact g4 k hk
 ·unfold laws_heldPointSS.f
  exact g5 k hk

theorem tris_eq (p : List S73) (hl : p.length ≤ 1048576) : ∃ r : List (List S73) × Int,r.1.length ≤ 600 ∧ ShortP r.1 ∧ (∀ k,1048577 ≤ k → spec_Triangulate.f k p = some r) ∧ (∀ k,1048577 ≤ k → impl_Triangulate.f k p = some r):=by
 obtain ⟨b,h1,h2,hv⟩:=spec_valid_eq p hl
 cases b with
 | false =>
  refine ⟨([],1),by simp,fun i hi => absurd hi (by simp),fun k hk => ?_,fun k hk => ?_⟩
  ·unfold spec_Triangulate.f
   rw [h1 _ (by omega)]
   rfl
  ·unfold impl_Triangulate.f
   rw [h2 _ (by omega)]
   rfl
 | true =>
  have hV:=hv.1 rfl
  have hn:=hV.2.1
  obtain ⟨r,r1,r2,r3⟩:=triangles_eq hV
  refine ⟨(r,0),by show r.length ≤ 600;omega,fun i hi => ?_,fun k hk => ?_,fun k hk => ?_⟩
  ·have hm : r.getD i [] ∈ r:=by
    rw [List.getD_eq_getElem?_getD,List.getElem?_eq_getElem hi]
    exact List.getElem_mem hi
   obtain ⟨a,b,c,e,_⟩:=r2 _ hm
   show (r.getD i []).length ≤ 1000
   rw [e]
   simp
  ·unfold spec_Triangulate.f
   rw [h1 _ (by omega),Option.bind_some,if_pos rfl,(r3 k (by omega)).1]
   rfl
  ·unfold impl_Triangulate.f
   rw [h2 _ (by omega),Option.bind_some,if_pos rfl,(r3 k (by omega)).2]
   rfl
theorem FnExactTriangulate (l : List S75) (hl : l.length ≤ maxLen) (hg : ∀ x ∈ l,(Lit.int .i64 x.f0).wf = true ∧ (Lit.int .i64 x.f1).wf = true) : ∃ k,laws_FnExactTriangulate.f k l = some true:=by
 unfold maxLen at hl
 by_cases hs : l.length ≤ 1048576
 ·obtain ⟨⟨g0,g1⟩,hr,hsn,h1,h2⟩:=tris_eq (conv l) (by rw [conv_length];exact hs)
  have hr : g0.length ≤ 600:=hr
  have hsn : ShortP g0:=hsn
  obtain ⟨n0,m0,hn0,a1⟩:=marked (conv l) (by rw [conv_length];omega)
  obtain ⟨n1,m1,hn1,b1,b2⟩:=qmark_held g0 (by omega) hsn
  rw [conv_length] at a1
  have e1:=fun k (hk : l.length < k) => toPointS_eq l hs k hk
  have e2:=fun k (hk : l.length < k) => eqPointS_self (conv l) (by rw [conv_length];omega) k (by rw [conv_length];exact hk)
  have e3:=fun k (hk : 2000 < k) => eqPointSS_self g0 (by omega) hsn k (by omega)
  have b1':=fun k (hk : 2000 < k) => b1 k (by omega)
  have b2':=fun k (hk : 2000 < k) => b2 k (by omega)
  have q0 : ¬ n0 < 0:=by omega
  have q1 : ¬ n1 < 0:=by omega
  have q2 : ¬ (1048576 - (l.length : Int)) < 0:=by omega
  obtain ⟨B,hB⟩ : ∃ B : Nat,1048578 ≤ B:=⟨_,Nat.le_refl _⟩
  refine ⟨B + 3,?_⟩
  unfold laws_FnExactTriangulate.f
  rw [sz_small l hs,Option.bind_some,if_neg q2,e1 (B + 3) (by omega),Option.bind_some]
  rw [h1 (B + 3) (by omega),Option.bind_some,Option.bind_some,h2 (B + 3) (by omega),Option.bind_some]
  try dsimp only
  rw [e3 (B + 3) (by omega),Option.bind_some,if_pos rfl]
  simp only [laws_FnExactTriangulate.j0,bne_self_eq_false,Bool.false_eq_true,if_false]
  rw [e1 (B + 2) (by omega),Option.bind_some,e2 (B + 2) (by omega),Option.bind_some,if_pos rfl,a1 (B + 2) (by omega),Option.bind_some]
  try dsimp only
  rw [if_neg q0,e3 (B + 2) (by omega),Option.bind_some,if_pos rfl]
  simp only [laws_FnExactTriangulate.j1,bne_self_eq_false,Bool.false_eq_true,if_false]
  rw [b1' (B + 1) (by omega),Option.bind_some]
  try dsimp only
  rw [b2' (B + 1) (by omega),Option.bind_some,if_neg q1,if_pos rfl,e1 (B + 1) (by omega),Option.bind_some,h2 (B + 1) (by omega),Option.bind_some]
  try dsimp only
  rw [e3 (B + 1) (by omega),Option.bind_some,if_pos rfl]
  simp only [laws_FnExactTriangulate.j2,bne_self_eq_false,Bool.false_eq_true,if_false]
  rw [b2' B (by omega),Option.bind_some,if_neg q1,if_pos rfl]
 ·refine ⟨0,?_⟩
  unfold laws_FnExactTriangulate.f
  rw [sz_large l hl (by omega)]
  rfl

end Go.Proofs.Ytnnchaggdnlfmaa.Pure
