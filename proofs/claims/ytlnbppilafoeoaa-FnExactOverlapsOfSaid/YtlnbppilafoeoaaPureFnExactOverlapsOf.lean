/- The plain law: what FnExactOverlapsOf computes is true at every input. -/
import Derived.Test.YtlnbppilafoeoaaLFnExactOverlapsOfc
namespace Go.Proofs.Ytlnbppilafoeoaa.Pure
open Go.RowKit Go.Proofs.Ytlnbppilafoeoaa.PFnExactOverlapsOf Go.Proofs.YtlnbppilafoeoaaW.PrintWords Go.Proofs.YtlnbppilafoeoaaW.PrintLast Go.Proofs.YtlnbppilafoeoaaW.PrintMore Go.Proofs.Ytlnbppilafoeoaa.MaGeoD Go.Proofs.Ytlnbppilafoeoaa.MaGeoA Go.Proofs.Ytlnbppilafoeoaa.MaGeoB Go.Proofs.Ytlnbppilafoeoaa.MaGeoC
set_option linter.unusedVariables false
set_option linter.unusedSimpArgs false

theorem facesFrom_all (pts : List S67) (fs : List S61) : ∀ (d i : Nat),facesFrom pts fs d i = true → ∀ j,i ≤ j → j < i + d → faceGood pts fs j = true
 | 0,i,_,j,h1,h2 => absurd h2 (by omega)
 | d + 1,i,h,j,h1,h2 => by
  rw [facesFrom_succ,Bool.and_eq_true] at h
  by_cases e : j = i
  ·rw [e]
   exact h.1
  ·exact facesFrom_all pts fs d (i + 1) h.2 j (by omega) (by omega)
theorem drawB_face {w h : Int} {pts : List S67} {fs : List S61} (hd : drawB w h pts fs = true) (i : Nat) (hi : i < fs.length) : ringOk pts (fs.getD i z61).f1 = true ∧ validB (ringP pts (fs.getD i z61).f1) = true:=by
 unfold drawB at hd;simp only [Bool.and_eq_true] at hd;have:=facesFrom_all pts fs fs.length 0 hd.2.2 i (by omega) (by omega);rw [faceGood_eq] at this;simp only [Bool.and_eq_true] at this;exact this.2.2
theorem drawB_valid {w h : Int} {pts : List S67} {fs : List S61} (hd : drawB w h pts fs = true) (hs : ShortP fs) (i : Nat) (hi : i < fs.length) : Valid (ringP pts (fs.getD i z61).f1) :=
 ((validB_eq (ringP pts (fs.getD i z61).f1) (by rw [ringP_length];exact (hs i hi).2) 1000 (Nat.le_refl _)).2.2).1 (drawB_face hd i hi).2

theorem spec_polygon_eq {w h : Int} {pts : List S67} {fs : List S61} (hd : drawB w h pts fs = true) (hp : pts.length ≤ 1048576) (hs : ShortP fs) (i : Nat) (hi : i < fs.length) (k : Nat) (hk : 1048577 ≤ k) : spec_l05Polygon.f k w h pts fs i = some (ringP pts (fs.getD i z61).f1,w,h):=by
 have h2:=(hs i hi).2;unfold spec_l05Polygon.f;rw [if_pos (by omega),if_pos (by omega),rdF_nat,spec_ring_eq pts fs w h hp _ h2 k (by omega),if_pos (drawB_face hd i hi).1];rfl
theorem impl_polygon_eq {w h : Int} {pts : List S67} {fs : List S61} (hd : drawB w h pts fs = true) (hp : pts.length ≤ 1048576) (hs : ShortP fs) (i : Nat) (hi : i < fs.length) (k : Nat) (hk : 1048577 ≤ k) : impl_facePolygon.f k w h pts fs i = some (ringP pts (fs.getD i z61).f1):=by
 have h2:=(hs i hi).2;unfold impl_facePolygon.f;rw [if_pos (by omega),if_pos (by omega),rdF_nat,impl_ring_eq pts hp _ h2 k (by omega),if_pos (drawB_face hd i hi).1];rfl

theorem mul_self_nonneg' (a : Int) : 0 ≤ a * a:=by
 rcases Int.le_total 0 a with h | h;(·exact Int.mul_nonneg h h);(·have:=Int.mul_nonneg (show 0 ≤ -a by omega) (show 0 ≤ -a by omega);rwa [Int.neg_mul_neg] at this)
theorem prod_in2 {a b M N : Int} (ha : -M ≤ a ∧ a ≤ M) (hb : -N ≤ b ∧ b ≤ N) (hM : 0 ≤ M) (hN : 0 ≤ N) : -(M * N) ≤ a * b ∧ a * b ≤ M * N:=by
 rcases Int.le_total 0 a with h | h;(·have h1 : a * b ≤ a * N:=Int.mul_le_mul_of_nonneg_left hb.2 h;have h2 : a * (-N) ≤ a * b:=Int.mul_le_mul_of_nonneg_left hb.1 h;have h3 : a * N ≤ M * N:=Int.mul_le_mul_of_nonneg_right ha.2 hN;rw [Int.mul_neg] at h2;omega);(·have h1 : (-a) * b ≤ (-a) * N:=Int.mul_le_mul_of_nonneg_left hb.2 (by omega);have h2 : (-a) * (-N) ≤ (-a) * b:=Int.mul_le_mul_of_nonneg_left hb.1 (by omega);have h3 : (-a) * N ≤ M * N:=Int.mul_le_mul_of_nonneg_right (by omega) hN;have e1 : (-a) * b = -(a * b):=Int.neg_mul a b;have e2 : (-a) * N = -(a * N):=Int.neg_mul a N;have e3 : (-a) * (-N) = a * N:=Int.neg_mul_neg a N;omega)
theorem prod_in {a b M : Int} (ha : -M ≤ a ∧ a ≤ M) (hb : -M ≤ b ∧ b ≤ M) (hM : 0 ≤ M) : -(M * M) ≤ a * b ∧ a * b ≤ M * M:=prod_in2 ha hb hM hM

/-- A point as the plain facts take it. -/
def toPt (s : S67) : Geo.Pt:=(s.f0,s.f1)
def ptsOf (p : List S67) : List Geo.Pt:=p.map toPt
theorem ptsOf_length (p : List S67) : (ptsOf p).length = p.length:=List.length_map _
theorem pt_of (p : List S67) (i : Nat) (h : i < p.length) : Geo.pt (ptsOf p) i = toPt (p.getD i z67):=by
 unfold Geo.pt ptsOf;rw [List.getD_eq_getElem?_getD,List.getElem?_map,List.getElem?_eq_getElem h,List.getD_eq_getElem?_getD,List.getElem?_eq_getElem h];rfl
/-- Coordinates that reckon without a wrap. -/
def inC (x y : Int) : Prop:=(0 ≤ x ∧ x ≤ 40000) ∧ (0 ≤ y ∧ y ≤ 40000)
theorem inC_of_ok {x y : Int} (h : okP x y = true) : inC x y:=by
 obtain ⟨⟨a,b⟩,c,d⟩:=(okP_iff _ _).1 h;exact ⟨⟨a,by omega⟩,c,by omega⟩
theorem side_cr {a0 a1 b0 b1 c0 c1 : Int} (ha : inC a0 a1) (hb : inC b0 b1) (hc : inC c0 c1) :
  sideW a0 a1 b0 b1 c0 c1 = if Geo.cr (a0,a1) (b0,b1) (c0,c1) > 0 then 1 else if Geo.cr (a0,a1) (b0,b1) (c0,c1) < 0 then -1 else 0:=by
 obtain ⟨⟨A1,A2⟩,A3,A4⟩:=ha;obtain ⟨⟨B1,B2⟩,B3,B4⟩:=hb;obtain ⟨⟨C1,C2⟩,C3,C4⟩:=hc;have h1:=prod_in (a:=b0 - a0) (b:=c1 - a1) (M:=40000) (by omega) (by omega) (by omega);have h2:=prod_in (a:=b1 - a1) (b:=c0 - a0) (M:=40000) (by omega) (by omega) (by omega);unfold sideW Geo.cr;rw [w64 (x:=b0 - a0) (by omega) (by omega),w64 (x:=b1 - a1) (by omega) (by omega),w64 (x:=c0 - a0) (by omega) (by omega),w64 (x:=c1 - a1) (by omega) (by omega),w64 (x:=(b0 - a0) * (c1 - a1)) (by omega) (by omega),w64 (x:=(b1 - a1) * (c0 - a0)) (by omega) (by omega),w64 (by omega) (by omega)]
theorem side_sign {a0 a1 b0 b1 c0 c1 : Int} (ha : inC a0 a1) (hb : inC b0 b1) (hc : inC c0 c1) :
  (0 < sideW a0 a1 b0 b1 c0 c1 ↔ 0 < Geo.cr (a0,a1) (b0,b1) (c0,c1)) ∧ (sideW a0 a1 b0 b1 c0 c1 < 0 ↔ Geo.cr (a0,a1) (b0,b1) (c0,c1) < 0):=by
 rw [side_cr ha hb hc];generalize Geo.cr (a0,a1) (b0,b1) (c0,c1) = x;by_cases h : x > 0;(·rw [if_pos h];constructor <;> omega);(·rw [if_neg h];by_cases h2 : x < 0;(·rw [if_pos h2];constructor <;> omega);(·rw [if_neg h2];constructor <;> omega))
theorem on_iff {a0 a1 b0 b1 c0 c1 : Int} (ha : inC a0 a1) (hb : inC b0 b1) (hc : inC c0 c1) : onW a0 a1 b0 b1 c0 c1 = true ↔ Geo.On (a0,a1) (b0,b1) (c0,c1):=by
 have s:=side_sign ha hb hc;unfold onW Geo.On Geo.Btw mn mx;rw [Bool.and_eq_true,Bool.and_eq_true,decide_eq_true_eq,decide_eq_true_eq,decide_eq_true_eq];refine and_congr ⟨fun h => by omega,fun h => by omega⟩ (and_congr ?_ ?_);(·constructor;(·intro h;split at h <;> split at h <;> (simp only;omega));(·intro h;simp only at h;constructor <;> split <;> omega));(·constructor;(·intro h;split at h <;> split at h <;> (simp only;omega));(·intro h;simp only at h;constructor <;> split <;> omega))
theorem sgn_mul {s t x y : Int} (hs : s = 1 ∨ s = -1 ∨ s = 0) (ht : t = 1 ∨ t = -1 ∨ t = 0) (h1 : (0 < s ↔ 0 < x) ∧ (s < 0 ↔ x < 0)) (h2 : (0 < t ↔ 0 < y) ∧ (t < 0 ↔ y < 0)) : wrap64 (s * t) < 0 ↔ x * y < 0:=by
 have key : x * y < 0 ↔ (x < 0 ∧ 0 < y) ∨ (0 < x ∧ y < 0):=⟨Geo.lt_zero_cases,Geo.mul_lt_zero⟩;rw [key,← h1.1,← h1.2,← h2.1,← h2.2];rcases hs with rfl | rfl | rfl <;> rcases ht with rfl | rfl | rfl <;> (rw [w64 (by omega) (by omega)];omega)
theorem cross_iff {a0 a1 b0 b1 c0 c1 d0 d1 : Int} (ha : inC a0 a1) (hb : inC b0 b1) (hc : inC c0 c1) (hd : inC d0 d1) : crossW a0 a1 b0 b1 c0 c1 d0 d1 = true ↔ Geo.Crs (a0,a1) (b0,b1) (c0,c1) (d0,d1):=by
 unfold crossW Geo.Crs;rw [Bool.and_eq_true,decide_eq_true_eq,decide_eq_true_eq];exact and_congr (sgn_mul (sideW_three _ _ _ _ _ _) (sideW_three _ _ _ _ _ _) (side_sign ha hb hc) (side_sign ha hb hd)) (sgn_mul (sideW_three _ _ _ _ _ _) (sideW_three _ _ _ _ _ _) (side_sign hc hd ha) (side_sign hc hd hb))
theorem touch_iff {a0 a1 b0 b1 c0 c1 d0 d1 : Int} (ha : inC a0 a1) (hb : inC b0 b1) (hc : inC c0 c1) (hd : inC d0 d1) : touchW a0 a1 b0 b1 c0 c1 d0 d1 = true ↔ Geo.Touch (a0,a1) (b0,b1) (c0,c1) (d0,d1):=by
 unfold touchW Geo.Touch;rw [Bool.or_eq_true,Bool.or_eq_true,Bool.or_eq_true,Bool.or_eq_true,cross_iff ha hb hc hd,on_iff ha hb hc,on_iff ha hb hd,on_iff hc hd ha,on_iff hc hd hb]
/-- The corners of a valid polygon. -/
theorem ok_at {p : List S67} (h : (p.all fun s => okP s.f0 s.f1) = true) (i : Nat) (hi : i < p.length) : okP (p.getD i z67).f0 (p.getD i z67).f1 = true:=by
 rw [List.getD_eq_getElem?_getD,List.getElem?_eq_getElem hi];exact List.all_eq_true.1 h _ (List.getElem_mem hi)
theorem ivalid_of {p : List S67} (hV : Valid p) : Geo.IValid (ptsOf p):=by
 obtain ⟨h3,hn,hall,hg,_⟩:=hV;have m : ∀ i,i % p.length < p.length:=fun i => Nat.mod_lt _ (by omega);have C : ∀ i,i < p.length → inC (p.getD i z67).f0 (p.getD i z67).f1:=fun i hi => inC_of_ok (ok_at hall i hi);refine ⟨by rw [ptsOf_length];exact h3,fun q hq => ?_,fun i hi => ?_⟩;(·obtain ⟨s,hs,rfl⟩:=List.mem_map.1 hq;obtain ⟨⟨a,b⟩,_⟩:=(okP_iff _ _).1 (List.all_eq_true.1 hall s hs);exact ⟨a,by show s.f0 < 100000;omega⟩);(·rw [ptsOf_length] at hi ⊢;obtain ⟨g1,g2⟩:=hg i hi;rw [pt_of p i hi,pt_of p _ (m (i + 1)),pt_of p _ (m (i + 2))];unfold badAt at g1;dsimp only at g1;rw [Bool.or_eq_false_iff,Bool.or_eq_false_iff] at g1;obtain ⟨b1,b2,b3⟩:=g1;refine ⟨⟨?_,?_,?_⟩,fun j h1 h2 h4 => ?_⟩;(·intro e;unfold toPt at e;have e1:=congrArg Prod.fst e;have e2:=congrArg Prod.snd e;simp only at e1 e2;unfold same2 at b1;rw [e1,e2] at b1;simp at b1);(·intro e;have:=(on_iff (C i hi) (C _ (m (i + 1))) (C _ (m (i + 2)))).2 e;rw [b2] at this;cases this);(·intro e;have:=(on_iff (C _ (m (i + 1))) (C _ (m (i + 2))) (C i hi)).2 e;rw [b3] at this;cases this);(·rw [pt_of p j h2,pt_of p _ (m (j + 1))];intro e;have:=(touch_iff (C i hi) (C _ (m (i + 1))) (C j h2) (C _ (m (j + 1)))).2 e;have g:=g2 j h1 h2 h4;unfold meets at g;dsimp only at g;rw [g] at this;cases this))
theorem sa_take (p : List S67) (h0 : 0 < p.length) : ∀ i,i ≤ p.length → Geo.sa (Geo.pe ((ptsOf p ++ [Geo.pt (ptsOf p) 0]).take (i + 1))) = areaTo p i
 | 0,_ => by
  cases p with
  | nil => simp at h0
  | cons a p => rfl
 | i + 1,hi => by
  have ih:=sa_take p h0 i (by omega)
  have hm:=Nat.mod_lt (i + 1) h0
  have len : (ptsOf p ++ [Geo.pt (ptsOf p) 0]).length = p.length + 1:=by rw [List.length_append,ptsOf_length];rfl
  have g1 : (ptsOf p ++ [Geo.pt (ptsOf p) 0])[i]? = some (Geo.pt (ptsOf p) i):=by
   rw [List.getElem?_append_left (by rw [ptsOf_length];omega),List.getElem?_eq_getElem (by rw [ptsOf_length];omega),Geo.pt_get _ _ (by rw [ptsOf_length];omega)]
  have g2 : (ptsOf p ++ [Geo.pt (ptsOf p) 0])[i + 1]? = some (Geo.pt (ptsOf p) ((i + 1) % p.length)):=by
   by_cases c : i + 1 < p.length
   ·rw [List.getElem?_append_left (by rw [ptsOf_length];omega),List.getElem?_eq_getElem (by rw [ptsOf_length];omega),Nat.mod_eq_of_lt c,Geo.pt_get _ _ (by rw [ptsOf_length];omega)]
   ·have : i + 1 = p.length:=by omega
    rw [List.getElem?_append_right (by rw [ptsOf_length];omega),ptsOf_length,this,Nat.sub_self,Nat.mod_self]
    rfl
  rw [List.take_add_one,List.take_add_one,g1,g2]
  rw [List.take_add_one,g1] at ih
  have e : ∀ (x : List Geo.Pt) (a b : Geo.Pt),x ++ (some a).toList ++ (some b).toList = x ++ a :: [b]:=by intro x a b;simp
  rw [e,Geo.pe_split,Geo.sa_append]
  have e' : ∀ (x : List Geo.Pt) (a : Geo.Pt),x ++ (some a).toList = x ++ [a]:=by intro x a;rfl
  rw [e'] at ih
  rw [ih,areaTo,pt_of p i (by omega),pt_of p _ hm]
  unfold crossT toPt
  simp [Geo.pe,Geo.sa]
theorem area_of (p : List S67) (h0 : 0 < p.length) : Geo.area (ptsOf p) = areaTo p p.length:=by
 have:=sa_take p h0 p.length (Nat.le_refl _);rw [List.take_of_length_le (by rw [List.length_append,ptsOf_length];exact Nat.le_refl _)] at this;rw [← this];(cases p with |nil => (simp at h0) |cons a p => (rfl))
/-- A valid polygon is simple and goes to the left around. -/
theorem simple_valid {p : List S67} (hV : Valid p) : Geo.Simple (ptsOf p) ∧ Geo.LL (ptsOf p) = true:=by
 have h:=Geo.simple_of (ivalid_of hV);refine ⟨h,Geo.ll_of_area h ?_⟩;rw [area_of p (by have:=hV.1;omega)];exact hV.2.2.2.2

def inTriW (a0 a1 b0 b1 c0 c1 q0 q1 : Int) : Bool:=decide (sideW a0 a1 b0 b1 q0 q1 ≥ 0) && (decide (sideW b0 b1 c0 c1 q0 q1 ≥ 0) && decide (sideW c0 c1 a0 a1 q0 q1 ≥ 0))
theorem inTri_fold (x y z : Int) : (some x).bind (fun t => if t ≥ 0 then (some y).bind fun t => if t ≥ 0 then (some z).bind fun t => some (decide (t ≥ 0)) else some false else some false) = some (decide (x ≥ 0) && (decide (y ≥ 0) && decide (z ≥ 0))):=by
 by_cases h1 : x ≥ 0;(·by_cases h2 : y ≥ 0;(·simp [h1,h2]);(·simp [h1,h2]));(·simp [h1])
theorem impl_inTriangle_eq (a0 a1 b0 b1 c0 c1 q0 q1 : Int) : impl_inTriangle.f a0 a1 b0 b1 c0 c1 q0 q1 = some (inTriW a0 a1 b0 b1 c0 c1 q0 q1):=by
 unfold impl_inTriangle.f inTriW;simp only [impl_side_eq];exact inTri_fold _ _ _
theorem spec_l04In_eq (a0 a1 b0 b1 c0 c1 q0 q1 : Int) : spec_l04In.f a0 a1 b0 b1 c0 c1 q0 q1 = some (inTriW a0 a1 b0 b1 c0 c1 q0 q1):=by
 unfold spec_l04In.f inTriW;simp only [spec_side_eq];exact inTri_fold _ _ _

theorem tmP {i n : Nat} (hn : n ≤ 1000000000) (hi : i < n) : Int.tmod (wrap64 (wrap64 ((i : Int) + (n : Int)) - 1)) (n : Int) = (((i + n - 1) % n : Nat) : Int):=by
 rw [w64 (x:=(i : Int) + n) (by omega) (by omega),w64 (by omega) (by omega),Int.tmod_eq_emod_of_nonneg (by omega),Int.natCast_emod];congr 1;omega
def triAt (p : List S67) (i j : Nat) : Bool:=inTriW (p.getD ((i + p.length - 1) % p.length) z67).f0 (p.getD ((i + p.length - 1) % p.length) z67).f1 (p.getD i z67).f0 (p.getD i z67).f1 (p.getD ((i + 1) % p.length) z67).f0 (p.getD ((i + 1) % p.length) z67).f1 (p.getD j z67).f0 (p.getD j z67).f1
def sideAt (p : List S67) (i : Nat) : Int:=sideW (p.getD ((i + p.length - 1) % p.length) z67).f0 (p.getD ((i + p.length - 1) % p.length) z67).f1 (p.getD i z67).f0 (p.getD i z67).f1 (p.getD ((i + 1) % p.length) z67).f0 (p.getD ((i + 1) % p.length) z67).f1
/-- The point i is an ear. -/
def IsEar (p : List S67) (i : Nat) : Prop:=sideAt p i = 1 ∧ ∀ m,m < p.length → m ≠ i → m ≠ (i + p.length - 1) % p.length → m ≠ (i + 1) % p.length → triAt p i m = false
theorem ear_loops (p : List S67) (hn : p.length ≤ 1000000000) (i : Nat) (hi : i < p.length) : ∀ (d j : Nat),p.length - j ≤ d → ∃ b : Bool,
  (∀ k,d < k → impl_ear.l0 k i (p.length : Int) p (p.length : Int) j (p.getD ((i + p.length - 1) % p.length) z67).f0 (p.getD ((i + p.length - 1) % p.length) z67).f1 (p.getD i z67).f0 (p.getD i z67).f1 (p.getD ((i + 1) % p.length) z67).f0 (p.getD ((i + 1) % p.length) z67).f1 = some b ∧
   spec_l04Ear.l0 k p i (p.length : Int) j (p.getD ((i + p.length - 1) % p.length) z67).f0 (p.getD ((i + p.length - 1) % p.length) z67).f1 (p.getD i z67).f0 (p.getD i z67).f1 (p.getD ((i + 1) % p.length) z67).f0 (p.getD ((i + 1) % p.length) z67).f1 = some b) ∧
  (b = true ↔ ∀ m,j ≤ m → m < p.length → m ≠ i → m ≠ (i + p.length - 1) % p.length → m ≠ (i + 1) % p.length → triAt p i m = false):=by
 intro d
 have fin : ∀ j,¬ j < p.length → ∃ b : Bool,(∀ k,0 < k → impl_ear.l0 k i (p.length : Int) p (p.length : Int) j (p.getD ((i + p.length - 1) % p.length) z67).f0 (p.getD ((i + p.length - 1) % p.length) z67).f1 (p.getD i z67).f0 (p.getD i z67).f1 (p.getD ((i + 1) % p.length) z67).f0 (p.getD ((i + 1) % p.length) z67).f1 = some b ∧
   spec_l04Ear.l0 k p i (p.length : Int) j (p.getD ((i + p.length - 1) % p.length) z67).f0 (p.getD ((i + p.length - 1) % p.length) z67).f1 (p.getD i z67).f0 (p.getD i z67).f1 (p.getD ((i + 1) % p.length) z67).f0 (p.getD ((i + 1) % p.length) z67).f1 = some b) ∧
   (b = true ↔ ∀ m,j ≤ m → m < p.length → m ≠ i → m ≠ (i + p.length - 1) % p.length → m ≠ (i + 1) % p.length → triAt p i m = false):=by
  intro j hj
  refine ⟨true,fun k hk => ?_,⟨fun _ m h1 h2 => absurd h2 (by omega),fun _ => rfl⟩⟩
  obtain ⟨k,rfl⟩ : ∃ m,k = m + 1:=⟨k - 1,by omega⟩
  simp only [impl_ear.l0,spec_l04Ear.l0]
  rw [if_neg (by omega),if_neg (by omega)]
  exact ⟨rfl,rfl⟩
 induction d with
 | zero =>
  intro j hj
  obtain ⟨b,h1,h2⟩:=fin j (by omega)
  exact ⟨b,fun k hk => h1 k (by omega),h2⟩
 | succ d ih =>
  intro j hj
  by_cases hlt : j < p.length
  ·obtain ⟨b,h1,h2⟩:=ih (j + 1) (by omega)
   by_cases c1 : j = i ∨ j = (i + p.length - 1) % p.length ∨ j = (i + 1) % p.length
   ·refine ⟨b,fun k hk => ?_,h2.trans ⟨fun h m a1 a2 a3 a4 a5 => ?_,fun h m a1 a2 a3 a4 a5 => h m (by omega) a2 a3 a4 a5⟩⟩
    ·obtain ⟨k,rfl⟩ : ∃ m,k = m + 1:=⟨k - 1,by omega⟩
     have:=h1 k (by omega)
     simp only [impl_ear.l0,spec_l04Ear.l0]
     rw [tmP hn hi,tm1 (by omega) hi,w1 (by omega)]
     have e1 : (j : Int) < (p.length : Int):=by omega
     have e2 : (0 : Int) ≤ (j : Int):=by omega
     have e3 : ¬ (p.length : Int) = 0:=by omega
     simp only [if_pos e1,if_pos e2,if_neg e3]
     by_cases a1 : (j : Int) = (i : Int)
     ·simp only [if_pos a1]
      exact this
     ·by_cases a2 : (j : Int) = (((i + p.length - 1) % p.length : Nat) : Int)
      ·simp only [if_neg a1,if_pos a2]
       exact this
      ·have a3 : (j : Int) = (((i + 1) % p.length : Nat) : Int):=by omega
       simp only [if_neg a1,if_neg a2,if_pos a3]
       exact this
    ·by_cases e : m = j
     ·exfalso
      rw [← e] at c1
      rcases c1 with c | c | c
      ·exact a3 c
      ·exact a4 c
      ·exact a5 c
     ·exact h m (by omega) a2 a3 a4 a5
   ·have c2 : j ≠ i ∧ j ≠ (i + p.length - 1) % p.length ∧ j ≠ (i + 1) % p.length:=⟨fun h => c1 (.inl h),fun h => c1 (.inr (.inl h)),fun h => c1 (.inr (.inr h))⟩
    clear c1
    refine ⟨if triAt p i j = true then false else b,fun k hk => ?_,?_⟩
    ·obtain ⟨k,rfl⟩ : ∃ m,k = m + 1:=⟨k - 1,by omega⟩
     have:=h1 k (by omega)
     simp only [impl_ear.l0,spec_l04Ear.l0]
     rw [tmP hn hi,tm1 (by omega) hi,w1 (by omega),rdN]
     have e1 : (j : Int) < (p.length : Int):=by omega
     have e2 : (0 : Int) ≤ (j : Int):=by omega
     have e3 : ¬ (p.length : Int) = 0:=by omega
     have a1 : ¬ (j : Int) = (i : Int):=by omega
     have a2 : ¬ (j : Int) = (((i + p.length - 1) % p.length : Nat) : Int):=by omega
     have a3 : ¬ (j : Int) = (((i + 1) % p.length : Nat) : Int):=by omega
     simp only [if_pos e1,if_pos e2,if_neg e3,if_neg a1,if_neg a2,if_neg a3]
     rw [impl_inTriangle_eq,spec_l04In_eq,this.1,this.2]
     unfold triAt
     simp only [Option.bind_some]
     constructor <;> split <;> rfl
    ·cases ht : triAt p i j with
     | true =>
      simp only [if_true]
      exact ⟨fun h => (by cases h),fun h => by rw [h j (Nat.le_refl _) hlt c2.1 c2.2.1 c2.2.2] at ht;cases ht⟩
     | false =>
      simp only [Bool.false_eq_true,if_false]
      rw [h2]
      refine ⟨fun h m a1 a2 a3 a4 a5 => ?_,fun h m a1 a2 a3 a4 a5 => h m (by omega) a2 a3 a4 a5⟩
      by_cases e : m = j
      ·rw [e];exact ht
      ·exact h m (by omega) a2 a3 a4 a5
  ·obtain ⟨b,h1,h2⟩:=fin j hlt
   exact ⟨b,fun k hk => h1 k (by omega),h2⟩
theorem ear_eq (p : List S67) (hn : p.length ≤ 1000000000) (i : Nat) (hi : i < p.length) : ∃ b : Bool,(∀ k,p.length < k → impl_ear.f k p i = some b ∧ spec_l04Ear.f k p i = some b) ∧ (b = true ↔ IsEar p i):=by
 obtain ⟨b,h1,h2⟩:=ear_loops p hn i hi p.length 0 (by omega);have m1:=Nat.mod_lt (i + 1) (show 0 < p.length by omega);have m2:=Nat.mod_lt (i + p.length - 1) (show 0 < p.length by omega);refine ⟨decide (sideAt p i = 1) && b,fun k hk => ?_,?_⟩;(·have:=h1 k hk;simp only [Int.natCast_zero] at this;unfold impl_ear.f spec_l04Ear.f;rw [tmP hn hi,tm1 (by omega) hi,if_neg (by omega),if_pos (by omega),if_pos (by omega),if_pos (by omega),if_pos (by omega),if_pos (by omega),if_pos (by omega),if_neg (by omega),if_pos (by omega),if_pos (by omega),if_pos (by omega),if_pos (by omega),if_pos (by omega),if_pos (by omega),rdN,rdN,rdN,impl_side_eq,spec_side_eq,this.1,this.2];unfold sideAt;simp only [Option.bind_some];generalize sideW (p.getD ((i + p.length - 1) % p.length) z67).f0 (p.getD ((i + p.length - 1) % p.length) z67).f1 (p.getD i z67).f0 (p.getD i z67).f1 (p.getD ((i + 1) % p.length) z67).f0 (p.getD ((i + 1) % p.length) z67).f1 = s;by_cases hs : s = 1;(·rw [if_pos hs,decide_eq_true hs];exact ⟨rfl,rfl⟩);(·rw [if_neg hs,decide_eq_false hs];exact ⟨rfl,rfl⟩));(·rw [Bool.and_eq_true,decide_eq_true_eq,h2];exact ⟨fun h => ⟨h.1,fun m a => h.2 m (by omega) a⟩,fun h => ⟨h.1,fun m _ a => h.2 m a⟩⟩)

/-- What is left while ears are cut off. -/
def Rest (p : List S67) : Prop:=p.length ≤ 24 ∧ (p.all fun s => okP s.f0 s.f1) = true ∧ Geo.Simple (ptsOf p) ∧ Geo.LL (ptsOf p) = true
theorem rest_valid {p : List S67} (hV : Valid p) : Rest p:=⟨hV.2.1,hV.2.2.1,simple_valid hV⟩
theorem rest_three {p : List S67} (h : Rest p) : 3 ≤ p.length:=by
 have:=h.2.2.1.1;rw [ptsOf_length] at this;exact this
theorem inC_at {p : List S67} (h : (p.all fun s => okP s.f0 s.f1) = true) (i : Nat) (hi : i < p.length) : inC (p.getD i z67).f0 (p.getD i z67).f1:=inC_of_ok (ok_at h i hi)
theorem inT_iff {a0 a1 b0 b1 c0 c1 q0 q1 : Int} (ha : inC a0 a1) (hb : inC b0 b1) (hc : inC c0 c1) (hq : inC q0 q1) : inTriW a0 a1 b0 b1 c0 c1 q0 q1 = true ↔ Geo.InT (a0,a1) (b0,b1) (c0,c1) (q0,q1):=by
 have s1:=(side_sign ha hb hq).2;have s2:=(side_sign hb hc hq).2;have s3:=(side_sign hc ha hq).2;unfold inTriW Geo.InT;rw [Bool.and_eq_true,Bool.and_eq_true,decide_eq_true_eq,decide_eq_true_eq,decide_eq_true_eq];exact and_congr ⟨fun h => by omega,fun h => by omega⟩ (and_congr ⟨fun h => by omega,fun h => by omega⟩ ⟨fun h => by omega,fun h => by omega⟩)
theorem ear_iff {p : List S67} (h : Rest p) (i : Nat) (hi : i < p.length) : IsEar p i ↔ Geo.EarI (ptsOf p) i:=by
 have h3:=rest_three h;have m1 : (i + p.length - 1) % p.length < p.length:=Nat.mod_lt _ (by omega);have m2 : (i + 1) % p.length < p.length:=Nat.mod_lt _ (by omega);have C:=inC_at h.2.1;unfold IsEar Geo.EarI;rw [ptsOf_length,pt_of p i hi,pt_of p _ m1,pt_of p _ m2];refine and_congr ?_ ?_;(·have s:=(side_sign (C _ m1) (C i hi) (C _ m2)).1;have t:=sideW_three (p.getD ((i + p.length - 1) % p.length) z67).f0 (p.getD ((i + p.length - 1) % p.length) z67).f1 (p.getD i z67).f0 (p.getD i z67).f1 (p.getD ((i + 1) % p.length) z67).f0 (p.getD ((i + 1) % p.length) z67).f1;unfold sideAt;unfold toPt;constructor;(·intro e;exact s.1 (by omega));(·intro e;have:=s.2 e;omega));(·refine forall_congr' fun m => forall_congr' fun hm => forall_congr' fun n1 => forall_congr' fun n2 => forall_congr' fun n3 => ?_;rw [pt_of p m hm];unfold triAt;rw [← Bool.not_eq_true];exact not_congr (inT_iff (C _ m1) (C i hi) (C _ m2) (C m hm)))
theorem first_of (P : Nat → Prop) : ∀ n,(∃ i,i < n ∧ P i) → ∃ i,i < n ∧ P i ∧ ∀ j,j < i → ¬ P j
 | 0,⟨i,hi,_⟩ => absurd hi (Nat.not_lt_zero i)
 | n + 1,h => by
  by_cases c : ∃ i,i < n ∧ P i
  ·obtain ⟨i,h1,h2,h3⟩:=first_of P n c
   exact ⟨i,by omega,h2,h3⟩
  ·obtain ⟨i,h1,h2⟩:=h
   refine ⟨i,h1,h2,fun j hj hp => c ⟨j,by omega,hp⟩⟩
/-- The triangle at an ear. -/
def triOf (p : List S67) (i : Nat) : List S67:=[p.getD ((i + p.length - 1) % p.length) z67,p.getD i z67,p.getD ((i + 1) % p.length) z67]
theorem erase_pts (p : List S67) (i : Nat) : ptsOf (p.eraseIdx i) = (ptsOf p).eraseIdx i:=by
 unfold ptsOf;rw [List.eraseIdx_eq_take_drop_succ,List.eraseIdx_eq_take_drop_succ,List.map_append,List.map_take,List.map_drop]
theorem rest_cut {p : List S67} (h : Rest p) (h4 : 4 ≤ p.length) {i : Nat} (hi : i < p.length) (he : IsEar p i) : Rest (p.eraseIdx i):=by
 obtain ⟨a,b⟩:=Geo.ear_cut h.2.2.1 h.2.2.2 (by rw [ptsOf_length];exact h4) (by rw [ptsOf_length];exact hi) ((ear_iff h i hi).1 he);refine ⟨?_,?_,by rw [erase_pts];exact a,by rw [erase_pts];exact b⟩;(·rw [List.length_eraseIdx_of_lt hi];have:=h.1;omega);(·rw [List.all_eq_true];intro s hs;exact List.all_eq_true.1 h.2.1 s (List.mem_of_mem_eraseIdx hs))
theorem rest_ear {p : List S67} (h : Rest p) : ∃ i,i < p.length ∧ IsEar p i ∧ ∀ j,j < i → ¬ IsEar p j:=by
 obtain ⟨i,h1,h2⟩:=Geo.ear_exists h.2.2.1 h.2.2.2;rw [ptsOf_length] at h1;exact first_of (IsEar p) p.length ⟨i,h1,(ear_iff h i h1).2 h2⟩
theorem del_eq (p : List S67) (i : Nat) (hi : i < p.length) (hn : p.length ≤ 24) : impl_Point_76.f p i (wrap64 ((i : Int) + 1)) = some (p.eraseIdx i):=by
 unfold impl_Point_76.f;rw [w1 (by omega),if_pos (by omega),if_pos (by omega),if_pos (by omega),Int.toNat_natCast]
theorem impl_find {p : List S67} (hn : p.length ≤ 24) (h3 : 3 ≤ p.length) {i : Nat} (hi : i < p.length) (he : IsEar p i) (hf : ∀ j,j < i → ¬ IsEar p j) (acc : List (List S67)) (ha : acc.length ≤ 1000) (x6 : Int) :
  ∀ (d j k : Nat),j + d = i → 30 + d ≤ k → impl_triangles.l1 k acc p (p.length : Int) x6 (p.length : Int) j = impl_triangles.l0 (k - d - 1) (acc ++ [triOf p i]) (p.eraseIdx i):=by
 have m1 : (i + p.length - 1) % p.length < p.length:=Nat.mod_lt _ (by omega);have m2 : (i + 1) % p.length < p.length:=Nat.mod_lt _ (by omega);intro d;(induction d with |zero => (intro j k hj hk;(obtain rfl : j = i:=by omega);obtain ⟨k,rfl⟩ : ∃ q,k = q + 1:=⟨k - 1,by omega⟩;obtain ⟨b,hb,hbe⟩:=ear_eq p (by omega) j hi;have hbt:=hbe.2 he;subst hbt;rw [impl_triangles.l1,if_pos (by omega),(hb k (by omega)).1,Option.bind_some,if_pos rfl,if_neg (by omega),if_neg (by omega),tmP (by omega) hi,tm1 (by omega) hi,if_pos (by omega),if_pos (by omega),if_pos (by omega),if_pos (by omega),if_pos (by omega),if_pos (by omega),if_pos (by omega),del_eq p j hi hn,Option.bind_some,rdN,rdN,rdN,show k + 1 - 0 - 1 = k by omega];rfl) |succ d ih => (intro j k hj hk;obtain ⟨k,rfl⟩ : ∃ q,k = q + 1:=⟨k - 1,by omega⟩;obtain ⟨b,hb,hbe⟩:=ear_eq p (by omega) j (by omega);(have hbf : b = false:=by (cases b with |false => (rfl) |true => (exact absurd (hbe.1 rfl) (hf j (by omega)))));subst hbf;rw [impl_triangles.l1,if_pos (by omega),(hb k (by omega)).1,Option.bind_some,if_neg (by decide),w1 (by omega),ih (j + 1) k (by omega) (by omega),show k + 1 - (d + 1) - 1 = k - d - 1 by omega]))
theorem spec_find {p : List S67} (hn : p.length ≤ 24) (h3 : 3 ≤ p.length) {i : Nat} (hi : i < p.length) (he : IsEar p i) (hf : ∀ j,j < i → ¬ IsEar p j) (acc : List (List S67)) (ha : acc.length ≤ 1000) :
  ∀ (d j k : Nat),j + d = i → 30 + d ≤ k → spec_l04Triangles.l1 k p acc (p.length : Int) j = spec_l04Triangles.l0 (k - d - 1) (p.eraseIdx i) (acc ++ [triOf p i]):=by
 have m1 : (i + p.length - 1) % p.length < p.length:=Nat.mod_lt _ (by omega);have m2 : (i + 1) % p.length < p.length:=Nat.mod_lt _ (by omega);have wn : wrap64 ((p.length : Int) - 1) = (p.length : Int) - 1:=w64 (by omega) (by omega);(have lt : (p.take i).length ≤ 24:=by rw [List.length_take];omega);(have ld : (p.drop (i + 1)).length ≤ 24:=by rw [List.length_drop];omega);intro d;(induction d with |zero => (intro j k hj hk;(obtain rfl : j = i:=by omega);obtain ⟨k,rfl⟩ : ∃ q,k = q + 1:=⟨k - 1,by omega⟩;obtain ⟨b,hb,hbe⟩:=ear_eq p (by omega) j hi;have hbt:=hbe.2 he;subst hbt;rw [spec_l04Triangles.l1,wn];by_cases c : (j : Int) < (p.length : Int) - 1;(·rw [if_pos c,(hb k (by omega)).2,Option.bind_some,if_pos rfl,if_neg (by omega),tmP (by omega) hi,tm1 (by omega) hi,if_pos (by omega),if_pos (by omega),if_pos (by omega),if_pos (by omega),if_pos (by omega),if_pos (by omega),if_pos (by omega),Option.bind_some,if_pos (by omega),Option.bind_some,Int.toNat_natCast,List.nil_append,if_pos (by simp only [List.length_nil];omega),Option.bind_some,w1 (by omega),if_pos (by omega),if_pos (by omega),Option.bind_some,Int.toNat_natCast,if_pos (by omega),rdN,rdN,rdN,show k + 1 - 0 - 1 = k by omega,← List.eraseIdx_eq_take_drop_succ];rfl);(·rw [if_neg c,if_neg (by omega),tmP (by omega) hi,tm1 (by omega) hi,if_pos (by omega),if_pos (by omega),if_pos (by omega),if_pos (by omega),if_pos (by omega),if_pos (by omega),if_pos (by omega),Option.bind_some,if_pos (by omega),Option.bind_some,Int.toNat_natCast,List.nil_append,if_pos (by simp only [List.length_nil];omega),Option.bind_some,w1 (by omega),if_pos (by omega),if_pos (by omega),Option.bind_some,Int.toNat_natCast,if_pos (by omega),rdN,rdN,rdN,show k + 1 - 0 - 1 = k by omega,← List.eraseIdx_eq_take_drop_succ];rfl)) |succ d ih => (intro j k hj hk;obtain ⟨k,rfl⟩ : ∃ q,k = q + 1:=⟨k - 1,by omega⟩;obtain ⟨b,hb,hbe⟩:=ear_eq p (by omega) j (by omega);(have hbf : b = false:=by (cases b with |false => (rfl) |true => (exact absurd (hbe.1 rfl) (hf j (by omega)))));subst hbf;rw [spec_l04Triangles.l1,wn,if_pos (by omega),(hb k (by omega)).2,Option.bind_some,if_neg (by decide),w1 (by omega),ih (j + 1) k (by omega) (by omega),show k + 1 - (d + 1) - 1 = k - d - 1 by omega]))
/-- A triangle of corners of p, to the left around. -/
def TriIn (p : List S67) (t : List S67) : Prop:=∃ a b c,t = [a,b,c] ∧ a ∈ p ∧ b ∈ p ∧ c ∈ p ∧ 0 < Geo.cr (toPt a) (toPt b) (toPt c)
theorem getD_mem (p : List S67) (i : Nat) (hi : i < p.length) : p.getD i z67 ∈ p:=by
 rw [List.getD_eq_getElem?_getD,List.getElem?_eq_getElem hi];exact List.getElem_mem hi
theorem tri_ear {p : List S67} (h : Rest p) {i : Nat} (hi : i < p.length) (he : IsEar p i) : TriIn p (triOf p i):=by
 have h3:=rest_three h;have m1 : (i + p.length - 1) % p.length < p.length:=Nat.mod_lt _ (by omega);have m2 : (i + 1) % p.length < p.length:=Nat.mod_lt _ (by omega);have hp:=((ear_iff h i hi).1 he).1;rw [ptsOf_length,pt_of p i hi,pt_of p _ m1,pt_of p _ m2] at hp;exact ⟨_,_,_,rfl,getD_mem p _ m1,getD_mem p i hi,getD_mem p _ m2,hp⟩
theorem tri_last {p : List S67} (h : Rest p) (h3 : p.length = 3) : TriIn p p:=by
 obtain ⟨i,hi,he,_⟩:=rest_ear h;obtain ⟨x,y,z,e,hx,hy,hz,hc⟩:=tri_ear h hi he;(match p,h3 with |[a,b,c],_ => (refine ⟨a,b,c,rfl,by simp,by simp,by simp,?_⟩;(obtain rfl | rfl | rfl : i = 0 ∨ i = 1 ∨ i = 2:=by simp only [List.length_cons,List.length_nil] at hi;omega);(·rw [show triOf [a,b,c] 0 = [c,a,b] by simp [triOf]] at e;injection e with e1 e2;injection e2 with e2 e3;injection e3 with e3 _;subst e1;subst e2;subst e3;rw [← Geo.cr_rot] at hc;exact hc);(·rw [show triOf [a,b,c] 1 = [a,b,c] by simp [triOf]] at e;injection e with e1 e2;injection e2 with e2 e3;injection e3 with e3 _;subst e1;subst e2;subst e3;exact hc);(·rw [show triOf [a,b,c] 2 = [b,c,a] by simp [triOf]] at e;injection e with e1 e2;injection e2 with e2 e3;injection e3 with e3 _;subst e1;subst e2;subst e3;rw [Geo.cr_rot] at hc;exact hc)))
theorem tri_loop : ∀ (d : Nat) (p : List S67) (acc : List (List S67)),p.length = d + 3 → Rest p → acc.length + d ≤ 100 → ∃ ts : List (List S67),ts.length = acc.length + d + 1 ∧ (∀ t ∈ ts,t ∈ acc ∨ TriIn p t) ∧
  ∀ k,60 * (d + 1) ≤ k → spec_l04Triangles.l0 k p acc = some ts ∧ impl_triangles.l0 k acc p = some ts:=by
 intro d;(induction d with |zero => (intro p acc hl h ha;refine ⟨acc ++ [p],by simp,fun t ht => ?_,fun k hk => ?_⟩;(·rcases List.mem_append.1 ht with h1 | h1;(·exact .inl h1);(·rw [List.mem_singleton] at h1;subst h1;exact .inr (tri_last h hl)));(·obtain ⟨k,rfl⟩ : ∃ q,k = q + 1:=⟨k - 1,by omega⟩;rw [spec_l04Triangles.l0,impl_triangles.l0,if_neg (by omega),if_neg (by omega),Option.bind_some,if_pos (by simp only [List.length_nil];omega),if_pos (by omega),if_pos (by omega)];exact ⟨rfl,rfl⟩)) |succ d ih => (intro p acc hl h ha;obtain ⟨i,hi,he,hf⟩:=rest_ear h;obtain ⟨ts,t1,t2,t3⟩:=ih (p.eraseIdx i) (acc ++ [triOf p i]) (by rw [List.length_eraseIdx_of_lt hi];omega) (rest_cut h (by omega) hi he) (by rw [List.length_append,List.length_singleton];omega);have hn:=h.1;refine ⟨ts,by rw [t1,List.length_append,List.length_singleton];omega,fun t ht => ?_,fun k hk => ?_⟩;(·rcases t2 t ht with h1 | ⟨x,y,z,e,hx,hy,hz,hc⟩;(·rcases List.mem_append.1 h1 with h1 | h1;(·exact .inl h1);(·rw [List.mem_singleton] at h1;subst h1;exact .inr (tri_ear h hi he)));(·exact .inr ⟨x,y,z,e,List.mem_of_mem_eraseIdx hx,List.mem_of_mem_eraseIdx hy,List.mem_of_mem_eraseIdx hz,hc⟩));(·obtain ⟨k,rfl⟩ : ∃ q,k = q + 1:=⟨k - 1,by omega⟩;have z0 : ((0 : Nat) : Int) = 0:=rfl;have s1:=spec_find hn (by omega) hi he hf acc (by omega) i 0 k (by omega) (by omega);have s2:=impl_find hn (by omega) hi he hf acc (by omega) (-1) i 0 k (by omega) (by omega);rw [z0] at s1 s2;rw [spec_l04Triangles.l0,impl_triangles.l0,if_pos (by omega),if_pos (by omega),s1,s2];exact t3 _ (by omega))))
/-- Both cut a valid polygon into the same triangles. -/
theorem triangles_eq {p : List S67} (hV : Valid p) : ∃ ts : List (List S67),ts.length ≤ 22 ∧ (∀ t ∈ ts,TriIn p t) ∧ ∀ k,1500 ≤ k → spec_l04Triangles.f k p = some ts ∧ impl_triangles.f k p = some ts:=by
 have hn:=hV.2.1;have h3:=hV.1;obtain ⟨ts,t1,t2,t3⟩:=tri_loop (p.length - 3) p [] (by omega) (rest_valid hV) (by simp only [List.length_nil];omega);refine ⟨ts,by simp only [List.length_nil] at t1;omega,fun t ht => (t2 t ht).elim (fun h => absurd h (by simp)) (fun h => h),fun k hk => ?_⟩;unfold spec_l04Triangles.f impl_triangles.f impl_Point_74.f;rw [Option.bind_some,if_pos (by simp only [List.length_nil];omega),if_pos (by omega),Option.bind_some];exact t3 k (by omega)

theorem rdL (X : List (List S67)) (j : Nat) : rd_L7 X (j : Int) = X.getD j []:=by
 unfold rd_L7;rw [Int.toNat_natCast]
/-- The side of a corner of u at an edge of t. -/
def sd (t u : List S67) (i j : Nat) : Int:=sideW (t.getD i z67).f0 (t.getD i z67).f1 (t.getD ((i + 1) % 3) z67).f0 (t.getD ((i + 1) % 3) z67).f1 (u.getD j z67).f0 (u.getD j z67).f1
def rtL (t u : List S67) (i : Nat) : Bool:=decide (sd t u i 0 ≤ 0) && (decide (sd t u i 1 ≤ 0) && decide (sd t u i 2 ≤ 0))
def prtL (t u : List S67) : Bool:=rtL t u 0 || (rtL t u 1 || rtL t u 2)
theorem tm3 {i : Nat} (hi : i < 3) : Int.tmod (wrap64 ((i : Int) + 1)) 3 = (((i + 1) % 3 : Nat) : Int):=tm1 (n:=3) (by omega) hi
theorem spec_step (t u : List S67) (ht : t.length = 3) (hu : u.length = 3) (i j : Nat) (hi : i < 3) (hj : j < 3) (b : Bool) (k : Nat) : spec_l04Parted.l1 (k + 1) t u i b j = spec_l04Parted.l1 k t u i (b && decide (sd t u i j ≤ 0)) ((j + 1 : Nat) : Int):=by
 have m:=Nat.mod_lt (i + 1) (show 0 < 3 by omega);rw [spec_l04Parted.l1,if_pos (by omega),w1 (show j ≤ 4611686018427387904 by omega)];(cases b with |true => (rw [if_pos rfl,tm3 hi,if_pos (by omega),if_pos (by omega),if_pos (by omega),if_pos (by omega),if_pos (by omega),if_pos (by omega),rdN,rdN,rdN,spec_side_eq,Option.bind_some];rfl) |false => (rw [if_neg (by decide)];rfl))
theorem spec_end (t u : List S67) (i : Nat) (hi : i < 3) (b : Bool) (k : Nat) : spec_l04Parted.l1 (k + 1) t u i b ((3 : Nat) : Int) = if b = true then some true else spec_l04Parted.l0 k t u ((i + 1 : Nat) : Int):=by
 rw [spec_l04Parted.l1,if_neg (by omega),w1 (by omega)]
theorem spec_row (t u : List S67) (ht : t.length = 3) (hu : u.length = 3) (i : Nat) (hi : i < 3) (k : Nat) : spec_l04Parted.l0 (k + 5) t u i = if rtL t u i = true then some true else spec_l04Parted.l0 k t u ((i + 1 : Nat) : Int):=by
 have z0 : (0 : Int) = ((0 : Nat) : Int):=rfl;rw [spec_l04Parted.l0,if_pos (by omega),z0,spec_step t u ht hu i 0 hi (by omega),spec_step t u ht hu i 1 hi (by omega),spec_step t u ht hu i 2 hi (by omega),spec_end t u i hi,Bool.true_and,Bool.and_assoc];rfl
theorem impl_step (t u : List S67) (ht : t.length = 3) (hu : u.length = 3) (i j : Nat) (hi : i < 3) (hj : j < 3) (b : Bool) (k : Nat) : impl_beside.l1 (k + 1) t u i b 3 i u 3 j = impl_beside.l1 k t u i (b && decide (sd t u i j ≤ 0)) 3 i u 3 ((j + 1 : Nat) : Int):=by
 have m:=Nat.mod_lt (i + 1) (show 0 < 3 by omega);rw [impl_beside.l1,if_pos (by omega),if_pos (by omega),if_pos (by omega),w1 (show j ≤ 4611686018427387904 by omega)];(cases b with |true => (rw [if_pos rfl,tm3 hi,if_pos (by omega),if_pos (by omega),if_pos (by omega),if_pos (by omega),rdN,rdN,rdN,impl_side_eq,Option.bind_some];rfl) |false => (rw [if_neg (by decide)];rfl))
theorem impl_end (t u : List S67) (i : Nat) (hi : i < 3) (b : Bool) (k : Nat) : impl_beside.l1 (k + 1) t u i b 3 i u 3 ((3 : Nat) : Int) = if b = true then some true else impl_beside.l0 k t u 3 ((i + 1 : Nat) : Int):=by
 rw [impl_beside.l1,if_neg (by omega),w1 (by omega)]
theorem impl_row (t u : List S67) (ht : t.length = 3) (hu : u.length = 3) (i : Nat) (hi : i < 3) (k : Nat) : impl_beside.l0 (k + 5) t u 3 i = if rtL t u i = true then some true else impl_beside.l0 k t u 3 ((i + 1 : Nat) : Int):=by
 have z0 : (0 : Int) = ((0 : Nat) : Int):=rfl;(have z3 : (u.length : Int) = 3:=by omega);rw [impl_beside.l0,if_pos (by omega),z3,z0,impl_step t u ht hu i 0 hi (by omega),impl_step t u ht hu i 1 hi (by omega),impl_step t u ht hu i 2 hi (by omega),impl_end t u i hi,Bool.true_and,Bool.and_assoc];rfl
theorem parted_eq (t u : List S67) (ht : t.length = 3) (hu : u.length = 3) (k : Nat) (hk : 20 ≤ k) : spec_l04Parted.f k t u = some (prtL t u) ∧ impl_beside.f k t u = some (prtL t u):=by
 obtain ⟨k,rfl⟩ : ∃ q,k = q + 16:=⟨k - 16,by omega⟩;have z0 : (0 : Int) = ((0 : Nat) : Int):=rfl;(have z3 : (t.length : Int) = 3:=by omega);(have s3 : spec_l04Parted.l0 (k + 1) t u ((2 + 1 : Nat) : Int) = some false:=by rw [spec_l04Parted.l0,if_neg (by omega)]);(have i3 : impl_beside.l0 (k + 1) t u 3 ((2 + 1 : Nat) : Int) = some false:=by rw [impl_beside.l0,if_neg (by omega)]);unfold spec_l04Parted.f impl_beside.f prtL;rw [z3,z0,spec_row t u ht hu 0 (by omega) (k + 11),spec_row t u ht hu 1 (by omega) (k + 6),spec_row t u ht hu 2 (by omega) (k + 1),impl_row t u ht hu 0 (by omega) (k + 11),impl_row t u ht hu 1 (by omega) (k + 6),impl_row t u ht hu 2 (by omega) (k + 1),s3,i3];cases rtL t u 0 <;> cases rtL t u 1 <;> cases rtL t u 2 <;> exact ⟨rfl,rfl⟩
/-- The two triangles are parted by an edge of one of them. -/
def PP (t u : List S67) : Bool:=prtL t u || prtL u t
theorem disj_row (X Y : List (List S67)) (i : Nat) (hi : i < X.length) (hX : ∀ t ∈ X,t.length = 3) (hY : ∀ t ∈ Y,t.length = 3) (lx : X.length ≤ 1000) (ly : Y.length ≤ 1000) : ∀ (e j : Nat),Y.length - j = e → ∃ b : Bool,(b = true ↔ ∀ m,j ≤ m → m < Y.length → PP (X.getD i []) (Y.getD m []) = true) ∧
  ∀ k,30 + e ≤ k → spec_l04Disjoint.l1 k X Y i j = (if b = true then spec_l04Disjoint.l0 (k - e - 1) X Y ((i + 1 : Nat) : Int) else some false) ∧
   impl_apart.l1 k Y (X.getD i []) X (X.length : Int) i Y (Y.length : Int) j = (if b = true then impl_apart.l0 (k - e - 1) Y X (X.length : Int) ((i + 1 : Nat) : Int) else some false):=by
 (have ti : (X.getD i []).length = 3:=by rw [List.getD_eq_getElem?_getD,List.getElem?_eq_getElem hi];exact hX _ (List.getElem_mem hi));intro e;(induction e with |zero => (intro j he;refine ⟨true,⟨fun _ m h1 h2 => absurd h2 (by omega),fun _ => rfl⟩,fun k hk => ?_⟩;obtain ⟨k,rfl⟩ : ∃ q,k = q + 1:=⟨k - 1,by omega⟩;rw [if_pos rfl,if_pos rfl,show k + 1 - 0 - 1 = k by omega];refine ⟨?_,?_⟩;(·rw [spec_l04Disjoint.l1,if_neg (by omega),w1 (by omega)]);(·rw [impl_apart.l1,if_neg (by omega),w1 (by omega)])) |succ e ih => (intro j he;(have hj : j < Y.length:=by omega);(have tj : (Y.getD j []).length = 3:=by rw [List.getD_eq_getElem?_getD,List.getElem?_eq_getElem hj];exact hY _ (List.getElem_mem hj));obtain ⟨b,hb,hr⟩:=ih (j + 1) (by omega);refine ⟨PP (X.getD i []) (Y.getD j []) && b,?_,fun k hk => ?_⟩;(·rw [Bool.and_eq_true,hb];constructor;(·rintro ⟨h1,h2⟩ m a1 a2;by_cases q : m = j;(·rw [q];exact h1);(·exact h2 m (by omega) a2));(·intro h;exact ⟨h j (Nat.le_refl _) hj,fun m a1 a2 => h m (by omega) a2⟩));(·obtain ⟨k,rfl⟩ : ∃ q,k = q + 1:=⟨k - 1,by omega⟩;obtain ⟨r1,r2⟩:=hr k (by omega);obtain ⟨p1,p2⟩:=parted_eq (X.getD i []) (Y.getD j []) ti tj k (by omega);obtain ⟨q1,q2⟩:=parted_eq (Y.getD j []) (X.getD i []) tj ti k (by omega);rw [show k + 1 - (e + 1) - 1 = k - e - 1 by omega];unfold PP;refine ⟨?_,?_⟩;(·rw [spec_l04Disjoint.l1,if_pos (by omega),if_pos (by omega),if_pos (by omega),if_pos (by omega),rdL,rdL,w1 (show j ≤ 4611686018427387904 by omega),p1,q1,r1];cases prtL (X.getD i []) (Y.getD j []) <;> cases prtL (Y.getD j []) (X.getD i []) <;> cases b <;> rfl);(·rw [impl_apart.l1,if_pos (by omega),if_pos (by omega),if_pos (by omega),rdL,w1 (show j ≤ 4611686018427387904 by omega),p2,q2,r2];cases prtL (X.getD i []) (Y.getD j []) <;> cases prtL (Y.getD j []) (X.getD i []) <;> cases b <;> rfl))))
theorem disj_loop (X Y : List (List S67)) (hX : ∀ t ∈ X,t.length = 3) (hY : ∀ t ∈ Y,t.length = 3) (lx : X.length ≤ 1000) (ly : Y.length ≤ 1000) : ∀ (d i : Nat),X.length - i = d → ∃ b : Bool,(b = true ↔ ∀ n m,i ≤ n → n < X.length → m < Y.length → PP (X.getD n []) (Y.getD m []) = true) ∧
  ∀ k,40 + (Y.length + 5) * d ≤ k → spec_l04Disjoint.l0 k X Y i = some b ∧ impl_apart.l0 k Y X (X.length : Int) i = some b:=by
 intro d;(induction d with |zero => (intro i he;refine ⟨true,⟨fun _ n m h1 h2 => absurd h2 (by omega),fun _ => rfl⟩,fun k hk => ?_⟩;obtain ⟨k,rfl⟩ : ∃ q,k = q + 1:=⟨k - 1,by omega⟩;rw [spec_l04Disjoint.l0,impl_apart.l0,if_neg (by omega),if_neg (by omega)];exact ⟨rfl,rfl⟩) |succ d ih => (intro i he;(have hi : i < X.length:=by omega);obtain ⟨b,hb,hr⟩:=ih (i + 1) (by omega);obtain ⟨c,hc,hs⟩:=disj_row X Y i hi hX hY lx ly Y.length 0 (by omega);refine ⟨c && b,?_,fun k hk => ?_⟩;(·rw [Bool.and_eq_true,hb,hc];constructor;(·rintro ⟨h1,h2⟩ n m a1 a2 a3;by_cases q : n = i;(·rw [q];exact h1 m (Nat.zero_le _) a3);(·exact h2 n m (by omega) a2 a3));(·intro h;exact ⟨fun m _ a => h i m (Nat.le_refl _) hi a,fun n m a1 a2 a3 => h n m (by omega) a2 a3⟩));(·rw [Nat.mul_succ] at hk;obtain ⟨k,rfl⟩ : ∃ q,k = q + 1:=⟨k - 1,by omega⟩;have z0 : ((0 : Nat) : Int) = 0:=rfl;obtain ⟨r1,r2⟩:=hr (k - Y.length - 1) (by omega);obtain ⟨s1,s2⟩:=hs k (by omega);rw [z0] at s1 s2;refine ⟨?_,?_⟩;(·rw [spec_l04Disjoint.l0,if_pos (by omega),s1,r1];cases c <;> cases b <;> rfl);(·rw [impl_apart.l0,if_pos (by omega),if_pos (by omega),if_pos (by omega),rdL,s2,r2];cases c <;> cases b <;> rfl))))
/-- The box of a list of points. -/
def Boxed (p : List S67) (i : Nat) (r : Int × Int × Int × Int) : Prop:=∀ m,i ≤ m → m < p.length → r.1 ≤ (p.getD m z67).f0 ∧ r.2.1 ≤ (p.getD m z67).f1 ∧ (p.getD m z67).f0 ≤ r.2.2.1 ∧ (p.getD m z67).f1 ≤ r.2.2.2
theorem box_loop (p : List S67) (hn : p.length ≤ 1000) : ∀ (d i : Nat) (a b c e : Int),p.length - i ≤ d → ∃ r : Int × Int × Int × Int,(r.1 ≤ a ∧ r.2.1 ≤ b ∧ c ≤ r.2.2.1 ∧ e ≤ r.2.2.2) ∧ Boxed p i r ∧ ∀ k,d < k → impl_bounds.l0 k p (p.length : Int) i a b c e = some r:=by
 intro d;(induction d with |zero => (intro i a b c e hi;refine ⟨(a,b,c,e),⟨Int.le_refl _,Int.le_refl _,Int.le_refl _,Int.le_refl _⟩,fun m h1 h2 => absurd h2 (by omega),fun k hk => ?_⟩;obtain ⟨k,rfl⟩ : ∃ m,k = m + 1:=⟨k - 1,by omega⟩;rw [impl_bounds.l0,if_neg (by omega)]) |succ d ih => (intro i a b c e hi;by_cases hlt : i < p.length;(·obtain ⟨r,⟨g1,g2,g3,g4⟩,hb,hr⟩:=ih (i + 1) (mn a ((p.getD i z67).f0)) (mn b ((p.getD i z67).f1)) (mx c ((p.getD i z67).f0)) (mx e ((p.getD i z67).f1)) (by omega);(have n1 : mn a ((p.getD i z67).f0) ≤ a ∧ mn a ((p.getD i z67).f0) ≤ (p.getD i z67).f0:=by unfold mn;split <;> omega);(have n2 : mn b ((p.getD i z67).f1) ≤ b ∧ mn b ((p.getD i z67).f1) ≤ (p.getD i z67).f1:=by unfold mn;split <;> omega);(have n3 : c ≤ mx c ((p.getD i z67).f0) ∧ (p.getD i z67).f0 ≤ mx c ((p.getD i z67).f0):=by unfold mx;split <;> omega);(have n4 : e ≤ mx e ((p.getD i z67).f1) ∧ (p.getD i z67).f1 ≤ mx e ((p.getD i z67).f1):=by unfold mx;split <;> omega);refine ⟨r,⟨by omega,by omega,by omega,by omega⟩,fun m h1 h2 => ?_,fun k hk => ?_⟩;(·by_cases q : m = i;(·subst q;exact ⟨by omega,by omega,by omega,by omega⟩);(·exact hb m (by omega) h2));(·obtain ⟨k,rfl⟩ : ∃ m,k = m + 1:=⟨k - 1,by omega⟩;rw [impl_bounds.l0,if_pos (by omega),if_pos (by omega),if_pos (by omega),rdN,w1 (by omega)];exact hr k (by omega)));(·refine ⟨(a,b,c,e),⟨Int.le_refl _,Int.le_refl _,Int.le_refl _,Int.le_refl _⟩,fun m h1 h2 => absurd h2 (by omega),fun k hk => ?_⟩;obtain ⟨k,rfl⟩ : ∃ m,k = m + 1:=⟨k - 1,by omega⟩;rw [impl_bounds.l0,if_neg (by omega)])))
theorem box_eq {p : List S67} (hV : Valid p) : ∃ r : Int × Int × Int × Int,Boxed p 0 r ∧ ∀ k,30 ≤ k → impl_bounds.f k p = some r:=by
 have h3:=hV.1;have hn:=hV.2.1;have e0 : zJ p 0 = p.getD 0 z67:=rdN p 0;obtain ⟨r,_,hb,hr⟩:=box_loop p (by omega) p.length 0 (p.getD 0 z67).f0 (p.getD 0 z67).f1 (p.getD 0 z67).f0 (p.getD 0 z67).f1 (by omega);refine ⟨r,hb,fun k hk => ?_⟩;unfold impl_bounds.f;rw [if_pos (by omega),e0];exact hr k (by omega)
theorem box_mem {p : List S67} {r : Int × Int × Int × Int} (h : Boxed p 0 r) {s : S67} (hs : s ∈ p) : r.1 ≤ s.f0 ∧ r.2.1 ≤ s.f1 ∧ s.f0 ≤ r.2.2.1 ∧ s.f1 ≤ r.2.2.2:=by
 obtain ⟨m,hm,rfl⟩:=List.mem_iff_getElem.1 hs;have:=h m (Nat.zero_le _) hm;rw [List.getD_eq_getElem?_getD,List.getElem?_eq_getElem hm] at this;exact this
theorem inC_mem {p : List S67} (hV : Valid p) {s : S67} (hs : s ∈ p) : inC s.f0 s.f1:=inC_of_ok (List.all_eq_true.1 hV.2.2.1 s hs)
theorem rt_iff {a b x y z : S67} (ha : inC a.f0 a.f1) (hb : inC b.f0 b.f1) (hx : inC x.f0 x.f1) (hy : inC y.f0 y.f1) (hz : inC z.f0 z.f1) :
  (decide (sideW a.f0 a.f1 b.f0 b.f1 x.f0 x.f1 ≤ 0) && (decide (sideW a.f0 a.f1 b.f0 b.f1 y.f0 y.f1 ≤ 0) && decide (sideW a.f0 a.f1 b.f0 b.f1 z.f0 z.f1 ≤ 0))) = true ↔ Geo.Rt (toPt a) (toPt b) (toPt x) (toPt y) (toPt z):=by
 have s1:=(side_sign ha hb hx).1;have s2:=(side_sign ha hb hy).1;have s3:=(side_sign ha hb hz).1;unfold Geo.Rt toPt;rw [Bool.and_eq_true,Bool.and_eq_true,decide_eq_true_eq,decide_eq_true_eq,decide_eq_true_eq];exact and_congr ⟨fun h => by omega,fun h => by omega⟩ (and_congr ⟨fun h => by omega,fun h => by omega⟩ ⟨fun h => by omega,fun h => by omega⟩)
theorem prt_iff {a b c x y z : S67} (ha : inC a.f0 a.f1) (hb : inC b.f0 b.f1) (hc : inC c.f0 c.f1) (hx : inC x.f0 x.f1) (hy : inC y.f0 y.f1) (hz : inC z.f0 z.f1) : prtL [a,b,c] [x,y,z] = true ↔ Geo.Prt (toPt a) (toPt b) (toPt c) (toPt x) (toPt y) (toPt z):=by
 unfold prtL Geo.Prt;rw [Bool.or_eq_true,Bool.or_eq_true];exact or_congr (rt_iff ha hb hx hy hz) (or_congr (rt_iff hb hc hx hy hz) (rt_iff hc ha hx hy hz))
theorem fx (D : Geo.Pt) (s : S67) : Geo.fD D (toPt s) = s.f0 * D.2 - s.f1 * D.1:=rfl
/-- Where the boxes lie apart, each two triangles are parted. -/
theorem boxes_apart {p q : List S67} (hp : Valid p) (hq : Valid q) {D : Geo.Pt} (hD : D ≠ (0,0)) (h : ∀ s ∈ p,∀ t ∈ q,Geo.fD D (toPt s) ≤ Geo.fD D (toPt t)) {t u : List S67} (ht : TriIn p t) (hu : TriIn q u) : PP t u = true ∧ PP u t = true:=by
 obtain ⟨a,b,c,rfl,pa,pb,pc,h1⟩:=ht
 obtain ⟨x,y,z,rfl,qx,qy,qz,h2⟩:=hu
 have key:=Geo.sat h1 h2 hD (by
  rintro s t (rfl | rfl | rfl) (rfl | rfl | rfl)
  ·exact h _ pa _ qx
  ·exact h _ pa _ qy
  ·exact h _ pa _ qz
  ·exact h _ pb _ qx
  ·exact h _ pb _ qy
  ·exact h _ pb _ qz
  ·exact h _ pc _ qx
  ·exact h _ pc _ qy
  ·exact h _ pc _ qz)
 have i1:=prt_iff (inC_mem hp pa) (inC_mem hp pb) (inC_mem hp pc) (inC_mem hq qx) (inC_mem hq qy) (inC_mem hq qz)
 have i2:=prt_iff (inC_mem hq qx) (inC_mem hq qy) (inC_mem hq qz) (inC_mem hp pa) (inC_mem hp pb) (inC_mem hp pc)
 unfold PP
 rw [Bool.or_eq_true,Bool.or_eq_true,i1,i2]
 exact ⟨key,key.symm⟩
theorem tri_len {p t : List S67} (h : TriIn p t) : t.length = 3:=by
 obtain ⟨a,b,c,rfl,_⟩:=h;rfl
/-- Both tell two valid polygons apart alike. -/
theorem apart_eq {a b : List S67} (ha : Valid a) (hb : Valid b) : ∃ r : Bool,∀ k,2000 ≤ k → spec_l04Disjoint.f k a b = some r ∧ impl_apart.f k a b = some r:=by
 obtain ⟨X,x1,x2,x3⟩:=triangles_eq ha;obtain ⟨Y,y1,y2,y3⟩:=triangles_eq hb;obtain ⟨A,a1,a2⟩:=box_eq ha;obtain ⟨B,b1,b2⟩:=box_eq hb;obtain ⟨r,hr,hk⟩:=disj_loop X Y (fun t h => tri_len (x2 t h)) (fun t h => tri_len (y2 t h)) (by omega) (by omega) X.length 0 (by omega);(have bound : 40 + (Y.length + 5) * X.length ≤ 40 + 27 * 22:=by have:=Nat.mul_le_mul (show Y.length + 5 ≤ 27 by omega) x1;omega);(have memX : ∀ n,n < X.length → TriIn a (X.getD n []):=fun n hn => by rw [List.getD_eq_getElem?_getD,List.getElem?_eq_getElem hn];exact x2 _ (List.getElem_mem hn));(have memY : ∀ n,n < Y.length → TriIn b (Y.getD n []):=fun n hn => by rw [List.getD_eq_getElem?_getD,List.getElem?_eq_getElem hn];exact y2 _ (List.getElem_mem hn));(have far : (A.2.2.1 ≤ B.1 ∨ B.2.2.1 ≤ A.1 ∨ A.2.2.2 ≤ B.2.1 ∨ B.2.2.2 ≤ A.2.1) → r = true:=by intro h;refine hr.2 fun n m _ h1 h2 => ?_;rcases h with h | h | h | h;(·exact (boxes_apart ha hb (D:=(0,1)) (by decide) (fun s hs t ht => by have:=box_mem a1 hs;have:=box_mem b1 ht;rw [fx,fx];simp only;omega) (memX n h1) (memY m h2)).1);(·exact (boxes_apart ha hb (D:=(0,-1)) (by decide) (fun s hs t ht => by have:=box_mem a1 hs;have:=box_mem b1 ht;rw [fx,fx];simp only;omega) (memX n h1) (memY m h2)).1);(·exact (boxes_apart ha hb (D:=(-1,0)) (by decide) (fun s hs t ht => by have:=box_mem a1 hs;have:=box_mem b1 ht;rw [fx,fx];simp only;omega) (memX n h1) (memY m h2)).1);(·exact (boxes_apart ha hb (D:=(1,0)) (by decide) (fun s hs t ht => by have:=box_mem a1 hs;have:=box_mem b1 ht;rw [fx,fx];simp only;omega) (memX n h1) (memY m h2)).1));have z0 : ((0 : Nat) : Int) = 0:=rfl;refine ⟨r,fun k hk2 => ⟨?_,?_⟩⟩;(·unfold spec_l04Disjoint.f;rw [(x3 k (by omega)).1,(y3 k (by omega)).1,Option.bind_some,Option.bind_some];have:=(hk k (by omega)).1;rw [z0] at this;exact this);(·obtain ⟨k,rfl⟩ : ∃ q,k = q + 1:=⟨k - 1,by omega⟩;have:=(hk k (by omega)).2;rw [z0] at this;unfold impl_apart.f;rw [a2 _ (by omega),b2 _ (by omega),Option.bind_some,Option.bind_some];(have jt : impl_apart.j0 (k + 1) a b true = some true:=by rw [impl_apart.j0,if_pos rfl]);(have jf : impl_apart.j0 (k + 1) a b false = some r:=by rw [impl_apart.j0,if_neg (by decide),(y3 k (by omega)).2,(x3 k (by omega)).2,Option.bind_some,Option.bind_some,this]);by_cases c1 : A.2.2.1 ≤ B.1;(·rw [if_pos c1,jt,far (.inl c1)]);rw [if_neg c1];by_cases c2 : B.2.2.1 ≤ A.1;(·rw [if_pos c2,jt,far (.inr (.inl c2))]);rw [if_neg c2];by_cases c3 : A.2.2.2 ≤ B.2.1;(·rw [if_pos c3,jt,far (.inr (.inr (.inl c3)))]);rw [if_neg c3];by_cases c4 : B.2.2.2 ≤ A.2.1;(·rw [decide_eq_true c4,jt,far (.inr (.inr (.inr c4)))]);(·rw [decide_eq_false c4,jf]))

theorem getI_set_self (x : List Int) (i : Nat) (v : Int) (h : i < x.length) : (x.set i v).getD i 0 = v:=by
 rw [List.getD_eq_getElem?_getD,List.getElem?_set_self h];rfl
theorem getI_set_ne (x : List Int) (i j : Nat) (v : Int) (h : i ≠ j) : (x.set i v).getD j 0 = x.getD j 0:=by
 rw [List.getD_eq_getElem?_getD,List.getElem?_set_ne h,List.getD_eq_getElem?_getD]
theorem imark_loop (n : Nat) (hn : n ≤ 1000000000) (a : Int) (ha : 0 ≤ a ∧ a ≤ 1000000000000000) : ∀ (d k i : Nat) (x : List Int),x.length = n → i ≤ n → n - i ≤ d → d < k → (∀ j,j < i → x.getD j 0 = a + j) →
  ∃ m : List Int,laws_markInt64S.l0 k x (a + i) i = some (a + (n : Int),m) ∧ m.length = n ∧ ∀ j,j < n → m.getD j 0 = a + j
 | d,0,i,x,_,_,_,h,_ => absurd h (by omega)
 | d,k + 1,i,x,hx,hi,h1,h2,hm => by
  simp only [laws_markInt64S.l0]
  by_cases hlt : i < n
  ·rw [if_pos (by omega),if_pos (by omega),Int.toNat_natCast,w1' (by omega),w64 (x:=a + (i : Int) + 1) (by omega) (by omega),show (a + (i : Int) + 1) = a + ((i + 1 : Nat) : Int) by omega]
   exact imark_loop n hn a ha (d - 1) k (i + 1) (x.set i (a + i)) (by simp [hx]) (by omega) (by omega) (by omega) (fun j hj => by
    by_cases e : i = j
    ·subst e
     rw [getI_set_self _ _ _ (by omega)]
    ·rw [getI_set_ne _ _ _ _ e]
     exact hm j (by omega))
  ·have e : i = n:=by omega
   subst e
   exact ⟨x,by rw [if_neg (by omega)],hx,hm⟩
theorem iheld_loop (n : Nat) (hn : n ≤ 1000000000) (a : Int) (ha : 0 ≤ a ∧ a ≤ 1000000000000000) (m : List Int) (hl : m.length = n) (hm : ∀ j,j < n → m.getD j 0 = a + j) : ∀ (d k i : Nat),i ≤ n → n - i ≤ d → d < k → laws_heldInt64S.l0 k m (a + i) i = some (a + n)
 | d,0,i,_,_,h => absurd h (by omega)
 | d,k + 1,i,hi,h1,h2 => by
  simp only [laws_heldInt64S.l0]
  by_cases hlt : i < n
  ·rw [if_pos (by omega),if_pos (by omega),rd_nat,hm i hlt,if_pos rfl,w1' (by omega),w64 (x:=a + (i : Int) + 1) (by omega) (by omega),show (a + (i : Int) + 1) = a + ((i + 1 : Nat) : Int) by omega]
   exact iheld_loop n hn a ha m hl hm (d - 1) k (i + 1) (by omega) (by omega) (by omega)
  ·rw [if_neg (by omega),show i = n by omega]
/-- What is marked is held. -/
theorem imark_held_at (x : List Int) (hn : x.length ≤ 1000000000) (a : Int) (ha : 0 ≤ a ∧ a ≤ 1000000000000000) : ∃ m : List Int,m.length = x.length ∧ (∀ k,x.length < k → laws_markInt64S.f k x a = some (a + x.length,m)) ∧ (∀ k,x.length < k → laws_heldInt64S.f k m a = some (a + x.length)):=by
 have h0:=fun k (hk : x.length < k) => imark_loop x.length hn a ha x.length k 0 x rfl (by omega) (by omega) hk (fun j hj => absurd hj (by omega));obtain ⟨m,h1,h2,h3⟩:=h0 (x.length + 1) (by omega);simp only [Int.natCast_zero,Int.add_zero] at h1;refine ⟨m,h2,fun k hk => ?_,fun k hk => ?_⟩;(·unfold laws_markInt64S.f;exact at_rounds (fun k => laws_markInt64S.mono_l k _ _ _) (show x.length + 1 ≤ k by omega) h1);(·unfold laws_heldInt64S.f;have:=iheld_loop x.length hn a ha m h2 h3 x.length k 0 (by omega) (by omega) hk;simp only [Int.natCast_zero,Int.add_zero] at this;exact this)
theorem imark_held (x : List Int) (hn : x.length ≤ 1000000000) : ∃ (n : Int) (m : List Int),0 < n ∧ (∀ k,x.length < k → laws_markInt64S.f k x 1 = some (n,m)) ∧ (∀ k,x.length < k → laws_heldInt64S.f k m 1 = some n):=by
 obtain ⟨m,_,h1,h2⟩:=imark_held_at x hn 1 (by omega);exact ⟨1 + x.length,m,by omega,h1,h2⟩

theorem rdL_nat (x : List (List Int)) (j : Nat) : rd_L3 x (j : Int) = x.getD j []:=by
 unfold rd_L3;rw [Int.toNat_natCast]
theorem getN_set_self (x : List (List Int)) (i : Nat) (v : List Int) (h : i < x.length) : (x.set i v).getD i [] = v:=by
 rw [List.getD_eq_getElem?_getD,List.getElem?_set_self h];rfl
theorem getN_set_ne (x : List (List Int)) (i j : Nat) (v : List Int) (h : i ≠ j) : (x.set i v).getD j [] = x.getD j []:=by
 rw [List.getD_eq_getElem?_getD,List.getElem?_set_ne h,List.getD_eq_getElem?_getD]
/-- All rows are short. -/
def ShortN (x : List (List Int)) : Prop:=∀ i,i < x.length → (x.getD i []).length ≤ 1000
theorem eqInt64SS_loop (x : List (List Int)) (hn : x.length ≤ 1000000) (hs : ShortN x) : ∀ (d k i : Nat),x.length - i ≤ d → d + 1001 < k → laws_eqInt64SS.l0 k x x i = some true
 | d,0,i,_,h => absurd h (by omega)
 | 0,k + 1,i,hi,_ => by
  simp only [laws_eqInt64SS.l0]
  rw [if_neg (by omega)]
 | d + 1,k + 1,i,hi,h => by
  simp only [laws_eqInt64SS.l0]
  by_cases c : i < x.length
  ·rw [if_pos (by omega),if_pos (by omega),if_pos (by omega),rdL_nat,eqInt64S_self _ (by have:=hs i c;omega) k (by have:=hs i c;omega),Option.bind_some,if_pos rfl,w1' (by omega)]
   exact eqInt64SS_loop x hn hs d k (i + 1) (by omega) (by omega)
  ·rw [if_neg (by omega)]
theorem eqInt64SS_self (x : List (List Int)) (hn : x.length ≤ 1000000) (hs : ShortN x) (k : Nat) (hk : x.length + 1001 < k) : laws_eqInt64SS.f k x x = some true:=by
 unfold laws_eqInt64SS.f;rw [if_pos rfl];exact eqInt64SS_loop x hn hs x.length k 0 (by omega) hk
theorem nmark_loop (N : Nat) (hN : N ≤ 1000000) : ∀ (d i : Nat) (x : List (List Int)) (a : Int),x.length = N → i ≤ N → N - i ≤ d → ShortN x → 0 ≤ a → a ≤ 1000 * i + 1 → ∃ (n : Int) (m : List (List Int)),m.length = N ∧ (∀ j,j < i → m.getD j [] = x.getD j []) ∧ a ≤ n ∧
  (∀ k,d + 1001 < k → laws_markInt64SS.l0 k x a i = some (n,m)) ∧ (∀ k,d + 1001 < k → laws_heldInt64SS.l0 k m a i = some n):=by
 intro d;(induction d with |zero => (intro i x a hx hi hd hs h0 h1;refine ⟨a,x,hx,fun _ _ => rfl,Int.le_refl _,fun k hk => ?_,fun k hk => ?_⟩;(·obtain ⟨k,rfl⟩ : ∃ q,k = q + 1:=⟨k - 1,by omega⟩;simp only [laws_markInt64SS.l0];rw [if_neg (by omega)]);(·obtain ⟨k,rfl⟩ : ∃ q,k = q + 1:=⟨k - 1,by omega⟩;simp only [laws_heldInt64SS.l0];rw [if_neg (by omega)])) |succ d ih => (intro i x a hx hi hd hs h0 h1;by_cases c : i < N;(·have hl:=hs i (by omega);obtain ⟨mi,e0,e1,e2⟩:=imark_held_at (x.getD i []) (by omega) a (by omega);(have hs' : ShortN (x.set i mi):=by intro j hj;rw [List.length_set] at hj;by_cases q : i = j;(·subst q;rw [getN_set_self _ _ _ hj];omega);(·rw [getN_set_ne _ _ _ _ q];exact hs j hj));obtain ⟨n,m,g1,g2,g3,g4,g5⟩:=ih (i + 1) (x.set i mi) (a + (x.getD i []).length) (by rw [List.length_set];exact hx) (by omega) (by omega) hs' (by omega) (by omega);(have gi : m.getD i [] = mi:=by rw [g2 i (by omega),getN_set_self _ _ _ (by omega)]);refine ⟨n,m,g1,fun j hj => ?_,by omega,fun k hk => ?_,fun k hk => ?_⟩;(·rw [g2 j (by omega),getN_set_ne _ _ _ _ (by omega)]);(·obtain ⟨k,rfl⟩ : ∃ q,k = q + 1:=⟨k - 1,by omega⟩;simp only [laws_markInt64SS.l0];rw [if_pos (by omega),if_pos (by omega),Int.toNat_natCast,e1 k (by omega),Option.bind_some,w1' (by omega)];exact g4 k (by omega));(·obtain ⟨k,rfl⟩ : ∃ q,k = q + 1:=⟨k - 1,by omega⟩;simp only [laws_heldInt64SS.l0];rw [if_pos (by omega),if_pos (by omega),rdL_nat,gi,e2 k (by omega),Option.bind_some,if_neg (by omega),w1' (by omega)];exact g5 k (by omega)));(·refine ⟨a,x,hx,fun _ _ => rfl,Int.le_refl _,fun k hk => ?_,fun k hk => ?_⟩;(·obtain ⟨k,rfl⟩ : ∃ q,k = q + 1:=⟨k - 1,by omega⟩;simp only [laws_markInt64SS.l0];rw [if_neg (by omega)]);(·obtain ⟨k,rfl⟩ : ∃ q,k = q + 1:=⟨k - 1,by omega⟩;simp only [laws_heldInt64SS.l0];rw [if_neg (by omega)]))))
theorem nmark_held (x : List (List Int)) (hn : x.length ≤ 1000000) (hs : ShortN x) : ∃ (n : Int) (m : List (List Int)),0 < n ∧ (∀ k,x.length + 1001 < k → laws_markInt64SS.f k x 1 = some (n,m)) ∧ (∀ k,x.length + 1001 < k → laws_heldInt64SS.f k m 1 = some n):=by
 obtain ⟨n,m,g1,_,g3,g4,g5⟩:=nmark_loop x.length hn x.length 0 x 1 rfl (by omega) (by omega) hs (by omega) (by omega);refine ⟨n,m,by omega,fun k hk => ?_,fun k hk => ?_⟩;(·unfold laws_markInt64SS.f;exact g4 k hk);(·unfold laws_heldInt64SS.f;exact g5 k hk)

theorem p_ext {x y : S67} (h0 : x.f0 = y.f0) (h1 : x.f1 = y.f1) : x = y:=by
 cases x;cases y;simp_all
theorem getD_set_self (x : List S67) (i : Nat) (v : S67) (h : i < x.length) : (x.set i v).getD i z67 = v:=by
 rw [List.getD_eq_getElem?_getD,List.getElem?_set_self h];rfl
theorem getD_set_ne (x : List S67) (i j : Nat) (v : S67) (h : i ≠ j) : (x.set i v).getD j z67 = x.getD j z67:=by
 rw [List.getD_eq_getElem?_getD,List.getElem?_set_ne h,List.getD_eq_getElem?_getD]
theorem mark_loop (n : Nat) (hn : n ≤ 1000000000) : ∀ (d k i : Nat) (x : List S67),x.length = n → i ≤ n → n - i ≤ d → d < k → (∀ j,j < i → x.getD j z67 = ⟨1 + 2 * (j : Int),1 + 2 * (j : Int) + 1⟩) →
  ∃ m : List S67,laws_markPointS.l0 k x (1 + 2 * (i : Int)) i = some (1 + 2 * (n : Int),m) ∧ m.length = n ∧ ∀ j,j < n → m.getD j z67 = ⟨1 + 2 * (j : Int),1 + 2 * (j : Int) + 1⟩
 | d,0,i,x,_,_,_,h,_ => absurd h (by omega)
 | d,k + 1,i,x,hx,hi,h1,h2,hm => by
  simp only [laws_markPointS.l0]
  by_cases hlt : i < n
  ·rw [if_pos (by omega),if_pos (by omega),Option.bind_some,Int.toNat_natCast,rdN,rdN,getD_set_self x i _ (by omega),w1 (by omega),w64 (x:=1 + 2 * (i : Int) + 1) (by omega) (by omega),w64 (x:=1 + 2 * (i : Int) + 1 + 1) (by omega) (by omega)]
   have:=mark_loop n hn (d - 1) k (i + 1) ((x.set i ⟨1 + 2 * (i : Int),(x.getD i z67).f1⟩).set i ⟨1 + 2 * (i : Int),1 + 2 * (i : Int) + 1⟩) (by simp [hx]) (by omega) (by omega) (by omega) (fun j hj => by
    by_cases e : i = j
    ·subst e
     rw [getD_set_self _ _ _ (by simp;omega)]
    ·rw [getD_set_ne _ _ _ _ e,getD_set_ne _ _ _ _ e]
     exact hm j (by omega))
   rw [show (1 + 2 * (i : Int) + 1 + 1) = 1 + 2 * ((i + 1 : Nat) : Int) by omega]
   exact this
  ·have e : i = n:=by omega
   subst e
   exact ⟨x,by rw [if_neg (by omega)],hx,hm⟩
theorem marked (x : List S67) (hn : x.length ≤ 1000000000) : ∃ (n : Int) (m : List S67),0 < n ∧ (∀ k,x.length < k → laws_markPointS.f k x 1 = some (n,m)):=by
 obtain ⟨m,h1,h2,h3⟩:=mark_loop x.length hn x.length (x.length + 1) 0 x rfl (by omega) (by omega) (by omega) (fun j hj => absurd hj (by omega));refine ⟨1 + 2 * (x.length : Int),m,by omega,fun k hk => ?_⟩;unfold laws_markPointS.f;exact at_rounds (fun k => laws_markPointS.mono_l k _ _ _) (show x.length + 1 ≤ k by omega) h1

theorem pmark_at (n : Nat) (hn : n ≤ 1048576) (a : Int) (ha : 0 ≤ a ∧ a ≤ 1000000000000) : ∀ (d i : Nat) (x : List S67),x.length = n → i ≤ n → n - i ≤ d → (∀ j,j < i → x.getD j z67 = ⟨a + 2 * (j : Int),a + 2 * (j : Int) + 1⟩) →
  ∃ m : List S67,m.length = n ∧ (∀ j,j < n → m.getD j z67 = ⟨a + 2 * (j : Int),a + 2 * (j : Int) + 1⟩) ∧ ∀ k,d < k → laws_markPointS.l0 k x (a + 2 * (i : Int)) i = some (a + 2 * (n : Int),m):=by
 intro d
 induction d with
 | zero =>
  intro i x hx hi h1 hm
  obtain rfl : i = n:=by omega
  refine ⟨x,hx,hm,fun k hk => ?_⟩
  obtain ⟨k,rfl⟩ : ∃ q,k = q + 1:=⟨k - 1,by omega⟩
  simp only [laws_markPointS.l0]
  rw [if_neg (by omega)]
 | succ d ih =>
  intro i x hx hi h1 hm
  by_cases hlt : i < n
  ·obtain ⟨m,g1,g2,g3⟩:=ih (i + 1) ((x.set i ⟨a + 2 * (i : Int),(x.getD i z67).f1⟩).set i ⟨a + 2 * (i : Int),a + 2 * (i : Int) + 1⟩) (by simp [hx]) (by omega) (by omega) (fun j hj => by
    by_cases e : i = j
    ·subst e
     rw [getD_set_self _ _ _ (by simp;omega)]
    ·rw [getD_set_ne _ _ _ _ e,getD_set_ne _ _ _ _ e]
     exact hm j (by omega))
   refine ⟨m,g1,g2,fun k hk => ?_⟩
   obtain ⟨k,rfl⟩ : ∃ q,k = q + 1:=⟨k - 1,by omega⟩
   simp only [laws_markPointS.l0]
   rw [if_pos (by omega),if_pos (by omega),Option.bind_some,Int.toNat_natCast,rdN,rdN,getD_set_self x i _ (by omega),w1 (by omega),w64 (x:=a + 2 * (i : Int) + 1) (by omega) (by omega),w64 (x:=a + 2 * (i : Int) + 1 + 1) (by omega) (by omega)]
   have:=g3 k (by omega)
   rw [show a + 2 * (i : Int) + 1 + 1 = a + 2 * ((i + 1 : Nat) : Int) by omega]
   exact this
  ·obtain rfl : i = n:=by omega
   refine ⟨x,hx,hm,fun k hk => ?_⟩
   obtain ⟨k,rfl⟩ : ∃ q,k = q + 1:=⟨k - 1,by omega⟩
   simp only [laws_markPointS.l0]
   rw [if_neg (by omega)]

theorem iset_self (x : List Int) (i : Nat) (v : Int) (h : i < x.length) : (x.set i v).length = x.length:=List.length_set
theorem imk_at (n : Nat) (hn : n ≤ 1048576) : ∀ (d i : Nat) (x : List Int) (a : Int),x.length = n → i ≤ n → n - i ≤ d → 0 ≤ a ∧ a ≤ 1000000000000000 + (i : Int) → ∃ m : List Int,m.length = n ∧ ∀ k,d < k → laws_markInt64S.l0 k x a i = some (a + ((n - i : Nat) : Int),m):=by
 intro d;(induction d with |zero => (intro i x a hx hi h1 ha;(obtain rfl : i = n:=by omega);refine ⟨x,hx,fun k hk => ?_⟩;obtain ⟨k,rfl⟩ : ∃ q,k = q + 1:=⟨k - 1,by omega⟩;simp only [laws_markInt64S.l0];rw [if_neg (by omega),show a + ((i - i : Nat) : Int) = a by omega]) |succ d ih => (intro i x a hx hi h1 ha;by_cases hlt : i < n;(·obtain ⟨m,g1,g2⟩:=ih (i + 1) (x.set i a) (a + 1) (by rw [List.length_set];exact hx) (by omega) (by omega) (by omega);refine ⟨m,g1,fun k hk => ?_⟩;obtain ⟨k,rfl⟩ : ∃ q,k = q + 1:=⟨k - 1,by omega⟩;have:=g2 k (by omega);simp only [laws_markInt64S.l0];rw [if_pos (by omega),if_pos (by omega),Int.toNat_natCast,w1 (by omega),w64 (x:=a + 1) (by omega) (by omega)];rw [show a + 1 + ((n - (i + 1) : Nat) : Int) = a + ((n - i : Nat) : Int) by omega] at this;exact this);(·(obtain rfl : i = n:=by omega);refine ⟨x,hx,fun k hk => ?_⟩;obtain ⟨k,rfl⟩ : ∃ q,k = q + 1:=⟨k - 1,by omega⟩;simp only [laws_markInt64S.l0];rw [if_neg (by omega),show a + ((i - i : Nat) : Int) = a by omega])))
theorem imk_all (x : List Int) (hn : x.length ≤ 1048576) (a : Int) (ha : 0 ≤ a ∧ a ≤ 1000000000000000) : ∃ m : List Int,m.length = x.length ∧ ∀ k,x.length < k → laws_markInt64S.f k x a = some (a + x.length,m):=by
 obtain ⟨m,g1,g2⟩:=imk_at x.length hn x.length 0 x a rfl (by omega) (by omega) ha;refine ⟨m,g1,fun k hk => ?_⟩;unfold laws_markInt64S.f;exact g2 k hk
theorem mtext_loop : ∀ (d : Nat) (x : Int) (t : ByteArray),x < 10 ^ d → x ≤ 9000000000000000000 → t.size + d ≤ 1000 → ∃ r,∀ k,d < k → laws_markText.l0 k x t = some r
 | d,x,t,hd,hx,ht => by
  by_cases h0 : x > 0
  ·cases d with
   | zero => simp at hd;omega
   | succ d =>
    have e1 : (strOfNums [(wrap64 (48 + (Int.tmod x 10))) % 256]).size = 1:=rfl
    have hq : Int.tdiv x 10 < 10 ^ d:=by
     rw [Int.tdiv_eq_ediv_of_nonneg (by omega)]
     rw [Int.pow_succ] at hd
     omega
    have hq2 : Int.tdiv x 10 ≤ 9000000000000000000:=by
     rw [Int.tdiv_eq_ediv_of_nonneg (by omega)]
     omega
    have hq3 : 0 ≤ Int.tdiv x 10:=by
     rw [Int.tdiv_eq_ediv_of_nonneg (by omega)]
     omega
    obtain ⟨r,hr⟩:=mtext_loop d (Int.tdiv x 10) (strOfNums [(wrap64 (48 + (Int.tmod x 10))) % 256] ++ t) hq hq2 (by rw [ByteArray.size_append,e1];omega)
    refine ⟨r,fun k hk => ?_⟩
    obtain ⟨k,rfl⟩ : ∃ m,k = m + 1:=⟨k - 1,by omega⟩
    rw [laws_markText.l0,if_pos h0,Option.bind_some,e1,if_pos (by omega),w64 (x:=Int.tdiv x 10) (by omega) (by omega)]
    exact hr k (by omega)
  ·refine ⟨(⟨#[109]⟩ : ByteArray) ++ t,fun k hk => ?_⟩
   obtain ⟨k,rfl⟩ : ∃ m,k = m + 1:=⟨k - 1,by omega⟩
   rw [laws_markText.l0,if_neg h0,if_pos (by omega)]
theorem mtext (x : Int) (hx : x ≤ 1000000000000000) : ∃ t,∀ k,20 ≤ k → laws_markText.f k x = some t:=by
 by_cases h0 : x ≤ 0;(·refine ⟨(⟨#[109,48]⟩ : ByteArray),fun k _ => ?_⟩;unfold laws_markText.f;rw [if_pos h0]);(·(have e : (10 : Int) ^ 16 = 10000000000000000:=by decide);have hz : (⟨#[]⟩ : ByteArray).size = 0:=rfl;obtain ⟨r,hr⟩:=mtext_loop 16 x (⟨#[]⟩ : ByteArray) (by omega) (by omega) (by omega);refine ⟨r,fun k hk => ?_⟩;unfold laws_markText.f;rw [if_neg h0];exact hr k (by omega))
theorem fset_self (x : List S61) (i : Nat) (v : S61) (h : i < x.length) : (x.set i v).getD i z61 = v:=by
 rw [List.getD_eq_getElem?_getD,List.getElem?_set_self h];rfl
theorem fset_ne (x : List S61) (i j : Nat) (v : S61) (h : i ≠ j) : (x.set i v).getD j z61 = x.getD j z61:=by
 rw [List.getD_eq_getElem?_getD,List.getElem?_set_ne h,List.getD_eq_getElem?_getD]
theorem fmk_at (n : Nat) (hn : n ≤ 1048576) : ∀ (d i : Nat) (x : List S61) (a : Int),x.length = n → i ≤ n → n - i ≤ d → (∀ j,j < n → (x.getD j z61).f1.length ≤ 1048576) → 0 ≤ a ∧ a ≤ 3000000 + 1048577 * (i : Int) →
  ∃ (q : Int) (m : List S61),a ≤ q ∧ ∀ k,d + 1048600 < k → laws_markFaceS.l0 k x a i = some (q,m):=by
 intro d
 induction d with
 | zero =>
  intro i x a hx hi h1 hr ha
  refine ⟨a,x,Int.le_refl _,fun k hk => ?_⟩
  obtain ⟨k,rfl⟩ : ∃ q,k = q + 1:=⟨k - 1,by omega⟩
  simp only [laws_markFaceS.l0]
  rw [if_neg (by omega)]
 | succ d ih =>
  intro i x a hx hi h1 hr ha
  by_cases hlt : i < n
  ·obtain ⟨t,ht⟩:=mtext a (by omega)
   have hl:=hr i hlt
   obtain ⟨mi,e0,e1⟩:=imk_all (x.getD i z61).f1 hl (a + 1) (by omega)
   obtain ⟨q,m,g1,g2⟩:=ih (i + 1) ((x.set i ⟨t,(x.getD i z61).f1⟩).set i ⟨t,mi⟩) (a + 1 + (x.getD i z61).f1.length) (by rw [List.length_set,List.length_set];exact hx) (by omega) (by omega) (fun j hj => by
    by_cases e : i = j
    ·subst e
     rw [fset_self _ _ _ (by rw [List.length_set];omega)]
     show mi.length ≤ 1048576
     omega
    ·rw [fset_ne _ _ _ _ e,fset_ne _ _ _ _ e]
     exact hr j hj) (by omega)
   refine ⟨q,m,by omega,fun k hk => ?_⟩
   obtain ⟨k,rfl⟩ : ∃ q,k = q + 1:=⟨k - 1,by omega⟩
   have g:=g2 k (by omega)
   have f1 : (x.set i (⟨t,(x.getD i z61).f1⟩ : S61)).getD i z61 = ⟨t,(x.getD i z61).f1⟩:=fset_self _ _ _ (by omega)
   simp only [laws_markFaceS.l0]
   rw [if_pos (by omega),if_pos (by omega),ht k (by omega),Option.bind_some,Int.toNat_natCast,f1,w64 (x:=a + 1) (by omega) (by omega),e1 k (by omega),Option.bind_some,w1 (by omega)]
   exact g
  ·refine ⟨a,x,Int.le_refl _,fun k hk => ?_⟩
   obtain ⟨k,rfl⟩ : ∃ q,k = q + 1:=⟨k - 1,by omega⟩
   simp only [laws_markFaceS.l0]
   rw [if_neg (by omega)]
/-- A drawing can be marked. -/
theorem mark_drawing (w h : Int) (pts : List S67) (fs : List S61) (hp : pts.length ≤ 1048576) (hf : fs.length ≤ 1048576) (hs : ShortP fs) : ∃ q : Int,0 ≤ q ∧ ∀ k,3150000 ≤ k → laws_markDrawing.f k w h pts fs 1 = some q:=by
 obtain ⟨m1,g1,g2,_⟩:=pmark_at pts.length hp 1 (by omega) pts.length 0 pts rfl (by omega) (by omega) (fun j hj => absurd hj (by omega)) |>.imp fun m h => (⟨h.1,h.2.2,trivial⟩ : m.length = pts.length ∧ (∀ k,pts.length < k → laws_markPointS.l0 k pts (1 + 2 * ((0 : Nat) : Int)) ((0 : Nat) : Int) = some (1 + 2 * (pts.length : Int),m)) ∧ True);obtain ⟨q,m2,e1,e2⟩:=fmk_at fs.length hf fs.length 0 fs (1 + 2 * (pts.length : Int)) rfl (by omega) (by omega) (fun j hj => (hs j hj).2) (by omega);refine ⟨q,by omega,fun k hk => ?_⟩;have a1:=g2 k (by omega);have a2:=e2 k (by omega);rw [show (1 : Int) + 2 * ((0 : Nat) : Int) = 1 by omega] at a1;simp only [Int.natCast_zero] at a1 a2;unfold laws_markDrawing.f laws_markPointS.f laws_markFaceS.f;rw [a1,Option.bind_some];dsimp only;rw [a2,Option.bind_some]

/-- One round of both double loops: the same pairs are kept. -/
theorem over_rowN {w h : Int} {pts : List S67} {fs : List S61} (hd : drawB w h pts fs = true) (hp : pts.length ≤ 1048576) (hs : ShortP fs) (hf : fs.length ≤ 24) (i : Nat) (hi : i < fs.length) : ∀ (e j : Nat) (acc : List (List Int)),fs.length - j = e → acc.length + e ≤ 100000 → ShortN acc → ∃ acc' : List (List Int),acc'.length ≤ acc.length + e ∧ ShortN acc' ∧ ∀ k,1060000 + e ≤ k →
  spec_l05Overlaps.l1 k acc (fs.length : Int) i j w h pts fs = spec_l05Overlaps.l0 (k - e - 1) acc' (fs.length : Int) (wrap64 ((i : Int) + 1)) w h pts fs ∧ impl_overlaps.l1 k acc i j (fs.length : Int) i w h pts fs = impl_overlaps.l0 (k - e - 1) acc' (fs.length : Int) (wrap64 ((i : Int) + 1)) w h pts fs:=by
 intro e;(induction e with |zero => (intro j acc he ha hsn;refine ⟨acc,by omega,hsn,fun k hk => ?_⟩;obtain ⟨k,rfl⟩ : ∃ q,k = q + 1:=⟨k - 1,by omega⟩;rw [spec_l05Overlaps.l1,impl_overlaps.l1,if_neg (by omega),if_neg (by omega),show k + 1 - 0 - 1 = k by omega];exact ⟨rfl,rfl⟩) |succ e ih => (intro j acc he ha hsn;(have hj : j < fs.length:=by omega);obtain ⟨b,hb⟩:=apart_eq (drawB_valid hd hs i hi) (drawB_valid hd hs j hj);(cases b with |true => (obtain ⟨acc',g1,gs,g2⟩:=ih (j + 1) acc (by omega) (by omega) hsn;refine ⟨acc',by omega,gs,fun k hk => ?_⟩;obtain ⟨k,rfl⟩ : ∃ q,k = q + 1:=⟨k - 1,by omega⟩;have g:=g2 k (by omega);rw [show k + 1 - (e + 1) - 1 = k - e - 1 by omega];constructor;(·rw [spec_l05Overlaps.l1,if_pos (by omega),spec_polygon_eq hd hp hs i hi k (by omega),Option.bind_some];dsimp only;rw [spec_polygon_eq hd hp hs j hj k (by omega),Option.bind_some];dsimp only;rw [(hb k (by omega)).1,Option.bind_some,if_pos rfl,w1 (by omega)];exact g.1);(·rw [impl_overlaps.l1,if_pos (by omega),impl_polygon_eq hd hp hs i hi k (by omega),Option.bind_some,impl_polygon_eq hd hp hs j hj k (by omega),Option.bind_some,(hb k (by omega)).2,Option.bind_some,if_pos rfl,w1 (by omega)];exact g.2)) |false => ((have hs2 : ShortN (acc ++ [([(i : Int),(j : Int)] : List Int)]):=by intro t ht;rw [List.length_append,List.length_singleton] at ht;by_cases q : t < acc.length;(·rw [List.getD_eq_getElem?_getD,List.getElem?_append_left q,← List.getD_eq_getElem?_getD];exact hsn t q);(·(have : t = acc.length:=by omega);subst this;rw [List.getD_eq_getElem?_getD,List.getElem?_append_right (Nat.le_refl _),Nat.sub_self];(show 2 ≤ 1000);omega));obtain ⟨acc',g1,gs,g2⟩:=ih (j + 1) (acc ++ [([(i : Int),(j : Int)] : List Int)]) (by omega) (by rw [List.length_append,List.length_singleton];omega) hs2;rw [List.length_append,List.length_singleton] at g1;refine ⟨acc',by omega,gs,fun k hk => ?_⟩;obtain ⟨k,rfl⟩ : ∃ q,k = q + 1:=⟨k - 1,by omega⟩;have g:=g2 k (by omega);rw [show k + 1 - (e + 1) - 1 = k - e - 1 by omega];constructor;(·rw [spec_l05Overlaps.l1,if_pos (by omega),spec_polygon_eq hd hp hs i hi k (by omega),Option.bind_some];dsimp only;rw [spec_polygon_eq hd hp hs j hj k (by omega),Option.bind_some];dsimp only;rw [(hb k (by omega)).1,Option.bind_some,if_neg (by decide),if_pos (by omega),w1 (by omega)];exact g.1);(·rw [impl_overlaps.l1,if_pos (by omega),impl_polygon_eq hd hp hs i hi k (by omega),Option.bind_some,impl_polygon_eq hd hp hs j hj k (by omega),Option.bind_some,(hb k (by omega)).2,Option.bind_some,if_neg (by decide),if_pos (by omega),w1 (by omega)];exact g.2)))))
theorem over_loopN {w h : Int} {pts : List S67} {fs : List S61} (hd : drawB w h pts fs = true) (hp : pts.length ≤ 1048576) (hs : ShortP fs) (hf : fs.length ≤ 24) : ∀ (d i : Nat) (acc : List (List Int)),fs.length - i = d → acc.length + d * 24 ≤ 100000 → ShortN acc → ∃ r : List (List Int),r.length ≤ acc.length + d * 24 ∧ ShortN r ∧ ∀ k,1070000 + 60 * d ≤ k →
  spec_l05Overlaps.l0 k acc (fs.length : Int) i w h pts fs = some (r,w,h) ∧ impl_overlaps.l0 k acc (fs.length : Int) i w h pts fs = some r:=by
 intro d;(induction d with |zero => (intro i acc he ha hsn;refine ⟨acc,by omega,hsn,fun k hk => ?_⟩;obtain ⟨k,rfl⟩ : ∃ q,k = q + 1:=⟨k - 1,by omega⟩;rw [spec_l05Overlaps.l0,impl_overlaps.l0,if_neg (by omega),if_neg (by omega)];exact ⟨rfl,rfl⟩) |succ d ih => (intro i acc he ha hsn;(have hi : i < fs.length:=by omega);obtain ⟨acc',g1,gs,g2⟩:=over_rowN hd hp hs hf i hi (fs.length - (i + 1)) (i + 1) acc rfl (by omega) hsn;obtain ⟨r,r1,rs,r2⟩:=ih (i + 1) acc' (by omega) (by omega) gs;refine ⟨r,by omega,rs,fun k hk => ?_⟩;obtain ⟨k,rfl⟩ : ∃ q,k = q + 1:=⟨k - 1,by omega⟩;have g:=g2 k (by omega);rw [w1 (by omega)] at g;have q:=r2 (k - (fs.length - (i + 1)) - 1) (by omega);constructor;(·rw [spec_l05Overlaps.l0,if_pos (by omega),w1 (by omega),g.1];exact q.1);(·rw [impl_overlaps.l0,if_pos (by omega),w1 (by omega),g.2];exact q.2)))
theorem overs_eq (w h : Int) (pts : List S67) (fs : List S61) (hp : pts.length ≤ 1048576) (hf : fs.length ≤ 1048576) (hs : ShortP fs) : ∃ r : List (List Int) × Int,r.1.length ≤ 10000 ∧ ShortN r.1 ∧ ∀ k,3160002 ≤ k → spec_OverlapsOf.f k w h pts fs = some r ∧ impl_OverlapsOf.f k w h pts fs = some r:=by
 (cases hd : drawB w h pts fs with |false => (refine ⟨([],1),by simp,fun i hi => absurd hi (by simp),fun k hk => ⟨?_,?_⟩⟩;(·unfold spec_OverlapsOf.f;rw [spec_draw_eq w h pts fs hp hf hs _ (by omega),Option.bind_some,hd];rfl);(·unfold impl_OverlapsOf.f;rw [impl_draw_eq w h pts fs hp hf hs _ (by omega),Option.bind_some,hd];rfl)) |true => (have hd':=hd;unfold drawB at hd';simp only [Bool.and_eq_true,decide_eq_true_eq] at hd';have f24:=hd'.1.2.2;obtain ⟨r,r1,rs,r2⟩:=over_loopN hd hp hs f24 fs.length 0 [] (by omega) (by simp;omega) (fun i hi => absurd hi (by simp));refine ⟨(r,0),by show r.length ≤ 10000;simp at r1;omega,rs,fun k hk => ?_⟩;have r3:=r2 k (by omega);simp only [Int.natCast_zero] at r3;constructor;(·unfold spec_OverlapsOf.f spec_l05Overlaps.f;rw [spec_draw_eq w h pts fs hp hf hs _ (by omega),Option.bind_some];dsimp only;rw [hd,if_pos rfl,r3.1];rfl);(·unfold impl_OverlapsOf.f impl_overlaps.f;rw [impl_draw_eq w h pts fs hp hf hs _ (by omega),Option.bind_some,hd,if_pos rfl,r3.2];rfl)))
theorem FnExactOverlapsOf (w h : Int) (pts : List S69) (fs : List S58) (_ : (Lit.int .i64 w).wf = true) (_ : (Lit.int .i64 h).wf = true) (hp : pts.length ≤ maxLen) (hpg : ∀ x ∈ pts,(Lit.int .i64 x.f0).wf = true ∧ (Lit.int .i64 x.f1).wf = true) (hf : fs.length ≤ maxLen) (hg : ∀ x ∈ fs,x.f0.size ≤ maxLen ∧ (x.f1.length ≤ maxLen ∧ ∀ y ∈ x.f1,(Lit.int .i64 y).wf = true)) : ∃ k,laws_FnExactOverlapsOf.f k w h pts fs = some true:=by
 obtain ⟨B,hB⟩ : ∃ B : Nat,fs.length + 3170000 ≤ B:=⟨_,Nat.le_refl _⟩;refine ⟨B + 3,?_⟩;unfold laws_FnExactOverlapsOf.f;obtain ⟨r,e1,e2⟩:=szDrawing_eq w h pts fs hp hf hg (B + 3) (by omega);rw [e1,Option.bind_some];by_cases c : r < 0;(·rw [if_pos c]);(·rw [if_neg c];obtain ⟨h1,h2,h3⟩:=e2 (by omega);have td:=fun k (hk : 3000000 ≤ k) => toDrawing_eq w h pts fs h1 h2 h3 k hk;have ed:=fun k (hk : 3000000 ≤ k) => eqDrawing_self w h pts fs h1 h2 h3 k hk;obtain ⟨⟨g0,g1⟩,hr,hn,hk⟩:=overs_eq w h (conv pts) (convF fs) (by rw [conv_length];exact h1) (by rw [convF_length];exact h2) (ShortP_conv fs h3);have hr : g0.length ≤ 10000:=hr;have hn : ShortN g0:=hn;obtain ⟨m0,hm0,a1⟩:=mark_drawing w h (conv pts) (convF fs) (by rw [conv_length];exact h1) (by rw [convF_length];exact h2) (ShortP_conv fs h3);obtain ⟨n1,m1,hn1,b1,b2⟩:=nmark_held g0 (by omega) hn;have e3:=fun k (hk : 1048577 < k) => eqInt64SS_self g0 (by omega) hn k (by omega);have b1':=fun k (hk : 1048577 < k) => b1 k (by omega);have b2':=fun k (hk : 1048577 < k) => b2 k (by omega);(have q0 : ¬ m0 < 0:=by omega);(have q1 : ¬ n1 < 0:=by omega);rw [td (B + 3) (by omega),Option.bind_some];dsimp only;rw [(hk (B + 3) (by omega)).1,Option.bind_some,Option.bind_some];dsimp only;rw [(hk (B + 3) (by omega)).2,Option.bind_some];dsimp only;rw [e3 (B + 3) (by omega),Option.bind_some,if_pos rfl];simp only [laws_FnExactOverlapsOf.j0,bne_self_eq_false,Bool.false_eq_true,if_false];rw [td (B + 2) (by omega),Option.bind_some];dsimp only;rw [ed (B + 2) (by omega),Option.bind_some,if_pos rfl,a1 (B + 2) (by omega),Option.bind_some,if_neg q0,e3 (B + 2) (by omega),Option.bind_some,if_pos rfl];simp only [laws_FnExactOverlapsOf.j1,bne_self_eq_false,Bool.false_eq_true,if_false];rw [b1' (B + 1) (by omega),Option.bind_some];dsimp only;rw [b2' (B + 1) (by omega),Option.bind_some,if_neg q1,if_pos rfl,td (B + 1) (by omega),Option.bind_some];dsimp only;rw [(hk (B + 1) (by omega)).2,Option.bind_some];dsimp only;rw [e3 (B + 1) (by omega),Option.bind_some,if_pos rfl];simp only [laws_FnExactOverlapsOf.j2,bne_self_eq_false,Bool.false_eq_true,if_false];rw [b2' B (by omega),Option.bind_some,if_neg q1,if_pos rfl])

end Go.Proofs.Ytlnbppilafoeoaa.Pure
