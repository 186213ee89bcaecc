/- The plain law: what FnExactJoinPolygons computes is true at every input. -/
import Derived.Test.YtlcfdfphldjolaaLFnExactJoinPolygonsb
namespace Go.Proofs.Ytlcfdfphldjolaa.Pure
open Go.RowKit Go.Proofs.Ytlcfdfphldjolaa.PFnExactJoinPolygons Go.Proofs.YtlcfdfphldjolaaW.PrintWords Go.Proofs.YtlcfdfphldjolaaW.PrintLast Go.Proofs.YtlcfdfphldjolaaW.PrintMore Go.Proofs.Ytlcfdfphldjolaa.MaGeoD Go.Proofs.Ytlcfdfphldjolaa.MaGeoA Go.Proofs.Ytlcfdfphldjolaa.MaGeoB Go.Proofs.Ytlcfdfphldjolaa.MaGeoC
set_option linter.unusedVariables false
set_option linter.unusedSimpArgs false

theorem mul_self_nonneg' (a : Int) : 0 ≤ a * a:=by
 rcases Int.le_total 0 a with h | h;(·exact Int.mul_nonneg h h);(·have:=Int.mul_nonneg (show 0 ≤ -a by omega) (show 0 ≤ -a by omega);rwa [Int.neg_mul_neg] at this)
theorem prod_in2 {a b M N : Int} (ha : -M ≤ a ∧ a ≤ M) (hb : -N ≤ b ∧ b ≤ N) (hM : 0 ≤ M) (hN : 0 ≤ N) : -(M * N) ≤ a * b ∧ a * b ≤ M * N:=by
 rcases Int.le_total 0 a with h | h;(·have h1 : a * b ≤ a * N:=Int.mul_le_mul_of_nonneg_left hb.2 h;have h2 : a * (-N) ≤ a * b:=Int.mul_le_mul_of_nonneg_left hb.1 h;have h3 : a * N ≤ M * N:=Int.mul_le_mul_of_nonneg_right ha.2 hN;rw [Int.mul_neg] at h2;omega);(·have h1 : (-a) * b ≤ (-a) * N:=Int.mul_le_mul_of_nonneg_left hb.2 (by omega);have h2 : (-a) * (-N) ≤ (-a) * b:=Int.mul_le_mul_of_nonneg_left hb.1 (by omega);have h3 : (-a) * N ≤ M * N:=Int.mul_le_mul_of_nonneg_right (by omega) hN;have e1 : (-a) * b = -(a * b):=Int.neg_mul a b;have e2 : (-a) * N = -(a * N):=Int.neg_mul a N;have e3 : (-a) * (-N) = a * N:=Int.neg_mul_neg a N;omega)
theorem prod_in {a b M : Int} (ha : -M ≤ a ∧ a ≤ M) (hb : -M ≤ b ∧ b ≤ M) (hM : 0 ≤ M) : -(M * M) ≤ a * b ∧ a * b ≤ M * M:=prod_in2 ha hb hM hM

/-- A point as the plain facts take it. -/
def toPt (s : S35) : Geo.Pt:=(s.f0,s.f1)
def ptsOf (p : List S35) : List Geo.Pt:=p.map toPt
theorem ptsOf_length (p : List S35) : (ptsOf p).length = p.length:=List.length_map _
theorem pt_of (p : List S35) (i : Nat) (h : i < p.length) : Geo.pt (ptsOf p) i = toPt (p.getD i z35):=by
 unfold Geo.pt ptsOf;rw [List.getD_eq_getElem?_getD,List.getElem?_map,List.getElem?_eq_getElem h,List.getD_eq_getElem?_getD,List.getElem?_eq_getElem h];rfl
/-- Coordinates that reckon without a wrap. -/
def inC (x y : Int) : Prop:=(0 ≤ x ∧ x ≤ 40000) ∧ (0 ≤ y ∧ y ≤ 40000)
theorem inC_of_ok {x y : Int} (h : okP x y = true) : inC x y:=by
 obtain ⟨⟨a,b⟩,c,d⟩:=(okP_iff _ _).1 h;exact ⟨⟨a,by omega⟩,c,by omega⟩
theorem side_cr {a0 a1 b0 b1 c0 c1 : Int} (ha : inC a0 a1) (hb : inC b0 b1) (hc : inC c0 c1) :
  sideW a0 a1 b0 b1 c0 c1 = if Geo.cr (a0,a1) (b0,b1) (c0,c1) > 0 then 1 else if Geo.cr (a0,a1) (b0,b1) (c0,c1) < 0 then -1 else 0:=by
 obtain ⟨⟨A1,A2⟩,A3,A4⟩:=ha;obtain ⟨⟨B1,B2⟩,B3,B4⟩:=hb;obtain ⟨⟨C1,C2⟩,C3,C4⟩:=hc;have h1:=prod_in (a:=b0 - a0) (b:=c1 - a1) (M:=40000) (by omega) (by omega) (by omega);have h2:=prod_in (a:=b1 - a1) (b:=c0 - a0) (M:=40000) (by omega) (by omega) (by omega);unfold sideW Geo.cr;rw [w64 (x:=b0 - a0) (by omega) (by omega),w64 (x:=b1 - a1) (by omega) (by omega),w64 (x:=c0 - a0) (by omega) (by omega),w64 (x:=c1 - a1) (by omega) (by omega),w64 (x:=(b0 - a0) * (c1 - a1)) (by omega) (by omega),w64 (x:=(b1 - a1) * (c0 - a0)) (by omega) (by omega),w64 (by omega) (by omega)]
theorem side_sign {a0 a1 b0 b1 c0 c1 : Int} (ha : inC a0 a1) (hb : inC b0 b1) (hc : inC c0 c1) :
  (0 < sideW a0 a1 b0 b1 c0 c1 ↔ 0 < Geo.cr (a0,a1) (b0,b1) (c0,c1)) ∧ (sideW a0 a1 b0 b1 c0 c1 < 0 ↔ Geo.cr (a0,a1) (b0,b1) (c0,c1) < 0):=by
 rw [side_cr ha hb hc];generalize Geo.cr (a0,a1) (b0,b1) (c0,c1) = x;by_cases h : x > 0;(·rw [if_pos h];constructor <;> omega);(·rw [if_neg h];by_cases h2 : x < 0;(·rw [if_pos h2];constructor <;> omega);(·rw [if_neg h2];constructor <;> omega))
theorem on_iff {a0 a1 b0 b1 c0 c1 : Int} (ha : inC a0 a1) (hb : inC b0 b1) (hc : inC c0 c1) : onW a0 a1 b0 b1 c0 c1 = true ↔ Geo.On (a0,a1) (b0,b1) (c0,c1):=by
 have s:=side_sign ha hb hc;unfold onW Geo.On Geo.Btw mn mx;rw [Bool.and_eq_true,Bool.and_eq_true,decide_eq_true_eq,decide_eq_true_eq,decide_eq_true_eq];refine and_congr ⟨fun h => by omega,fun h => by omega⟩ (and_congr ?_ ?_);(·constructor;(·intro h;split at h <;> split at h <;> (simp only;omega));(·intro h;simp only at h;constructor <;> split <;> omega));(·constructor;(·intro h;split at h <;> split at h <;> (simp only;omega));(·intro h;simp only at h;constructor <;> split <;> omega))
theorem sgn_mul {s t x y : Int} (hs : s = 1 ∨ s = -1 ∨ s = 0) (ht : t = 1 ∨ t = -1 ∨ t = 0) (h1 : (0 < s ↔ 0 < x) ∧ (s < 0 ↔ x < 0)) (h2 : (0 < t ↔ 0 < y) ∧ (t < 0 ↔ y < 0)) : wrap64 (s * t) < 0 ↔ x * y < 0:=by
 have key : x * y < 0 ↔ (x < 0 ∧ 0 < y) ∨ (0 < x ∧ y < 0):=⟨Geo.lt_zero_cases,Geo.mul_lt_zero⟩;rw [key,← h1.1,← h1.2,← h2.1,← h2.2];rcases hs with rfl | rfl | rfl <;> rcases ht with rfl | rfl | rfl <;> (rw [w64 (by omega) (by omega)];omega)
theorem cross_iff {a0 a1 b0 b1 c0 c1 d0 d1 : Int} (ha : inC a0 a1) (hb : inC b0 b1) (hc : inC c0 c1) (hd : inC d0 d1) : crossW a0 a1 b0 b1 c0 c1 d0 d1 = true ↔ Geo.Crs (a0,a1) (b0,b1) (c0,c1) (d0,d1):=by
 unfold crossW Geo.Crs;rw [Bool.and_eq_true,decide_eq_true_eq,decide_eq_true_eq];exact and_congr (sgn_mul (sideW_three _ _ _ _ _ _) (sideW_three _ _ _ _ _ _) (side_sign ha hb hc) (side_sign ha hb hd)) (sgn_mul (sideW_three _ _ _ _ _ _) (sideW_three _ _ _ _ _ _) (side_sign hc hd ha) (side_sign hc hd hb))
theorem touch_iff {a0 a1 b0 b1 c0 c1 d0 d1 : Int} (ha : inC a0 a1) (hb : inC b0 b1) (hc : inC c0 c1) (hd : inC d0 d1) : touchW a0 a1 b0 b1 c0 c1 d0 d1 = true ↔ Geo.Touch (a0,a1) (b0,b1) (c0,c1) (d0,d1):=by
 unfold touchW Geo.Touch;rw [Bool.or_eq_true,Bool.or_eq_true,Bool.or_eq_true,Bool.or_eq_true,cross_iff ha hb hc hd,on_iff ha hb hc,on_iff ha hb hd,on_iff hc hd ha,on_iff hc hd hb]
/-- The corners of a valid polygon. -/
theorem ok_at {p : List S35} (h : (p.all fun s => okP s.f0 s.f1) = true) (i : Nat) (hi : i < p.length) : okP (p.getD i z35).f0 (p.getD i z35).f1 = true:=by
 rw [List.getD_eq_getElem?_getD,List.getElem?_eq_getElem hi];exact List.all_eq_true.1 h _ (List.getElem_mem hi)
theorem ivalid_of {p : List S35} (hV : Valid p) : Geo.IValid (ptsOf p):=by
 obtain ⟨h3,hn,hall,hg,_⟩:=hV;have m : ∀ i,i % p.length < p.length:=fun i => Nat.mod_lt _ (by omega);have C : ∀ i,i < p.length → inC (p.getD i z35).f0 (p.getD i z35).f1:=fun i hi => inC_of_ok (ok_at hall i hi);refine ⟨by rw [ptsOf_length];exact h3,fun q hq => ?_,fun i hi => ?_⟩;(·obtain ⟨s,hs,rfl⟩:=List.mem_map.1 hq;obtain ⟨⟨a,b⟩,_⟩:=(okP_iff _ _).1 (List.all_eq_true.1 hall s hs);exact ⟨a,by show s.f0 < 100000;omega⟩);(·rw [ptsOf_length] at hi ⊢;obtain ⟨g1,g2⟩:=hg i hi;rw [pt_of p i hi,pt_of p _ (m (i + 1)),pt_of p _ (m (i + 2))];unfold badAt at g1;dsimp only at g1;rw [Bool.or_eq_false_iff,Bool.or_eq_false_iff] at g1;obtain ⟨b1,b2,b3⟩:=g1;refine ⟨⟨?_,?_,?_⟩,fun j h1 h2 h4 => ?_⟩;(·intro e;unfold toPt at e;have e1:=congrArg Prod.fst e;have e2:=congrArg Prod.snd e;simp only at e1 e2;unfold same2 at b1;rw [e1,e2] at b1;simp at b1);(·intro e;have:=(on_iff (C i hi) (C _ (m (i + 1))) (C _ (m (i + 2)))).2 e;rw [b2] at this;cases this);(·intro e;have:=(on_iff (C _ (m (i + 1))) (C _ (m (i + 2))) (C i hi)).2 e;rw [b3] at this;cases this);(·rw [pt_of p j h2,pt_of p _ (m (j + 1))];intro e;have:=(touch_iff (C i hi) (C _ (m (i + 1))) (C j h2) (C _ (m (j + 1)))).2 e;have g:=g2 j h1 h2 h4;unfold meets at g;dsimp only at g;rw [g] at this;cases this))
theorem sa_take (p : List S35) (h0 : 0 < p.length) : ∀ i,i ≤ p.length → Geo.sa (Geo.pe ((ptsOf p ++ [Geo.pt (ptsOf p) 0]).take (i + 1))) = areaTo p i
 | 0,_ => by
  cases p with
  | nil => simp at h0
  | cons a p => rfl
 | i + 1,hi => by
  have ih:=sa_take p h0 i (by omega)
  have hm:=Nat.mod_lt (i + 1) h0
  have len : (ptsOf p ++ [Geo.pt (ptsOf p) 0]).length = p.length + 1:=by rw [List.length_append,ptsOf_length];rfl
  have g1 : (ptsOf p ++ [Geo.pt (ptsOf p) 0])[i]? = some (Geo.pt (ptsOf p) i):=by
   rw [List.getElem?_append_left (by rw [ptsOf_length];omega),List.getElem?_eq_getElem (by rw [ptsOf_length];omega),Geo.pt_get _ _ (by rw [ptsOf_length];omega)]
  have g2 : (ptsOf p ++ [Geo.pt (ptsOf p) 0])[i + 1]? = some (Geo.pt (ptsOf p) ((i + 1) % p.length)):=by
   by_cases c : i + 1 < p.length
   ·rw [List.getElem?_append_left (by rw [ptsOf_length];omega),List.getElem?_eq_getElem (by rw [ptsOf_length];omega),Nat.mod_eq_of_lt c,Geo.pt_get _ _ (by rw [ptsOf_length];omega)]
   ·have : i + 1 = p.length:=by omega
    rw [List.getElem?_append_right (by rw [ptsOf_length];omega),ptsOf_length,this,Nat.sub_self,Nat.mod_self]
    rfl
  rw [List.take_add_one,List.take_add_one,g1,g2]
  rw [List.take_add_one,g1] at ih
  have e : ∀ (x : List Geo.Pt) (a b : Geo.Pt),x ++ (some a).toList ++ (some b).toList = x ++ a :: [b]:=by intro x a b;simp
  rw [e,Geo.pe_split,Geo.sa_append]
  have e' : ∀ (x : List Geo.Pt) (a : Geo.Pt),x ++ (some a).toList = x ++ [a]:=by intro x a;rfl
  rw [e'] at ih
  rw [ih,areaTo,pt_of p i (by omega),pt_of p _ hm]
  unfold crossT toPt
  simp [Geo.pe,Geo.sa]
theorem area_of (p : List S35) (h0 : 0 < p.length) : Geo.area (ptsOf p) = areaTo p p.length:=by
 have:=sa_take p h0 p.length (Nat.le_refl _);rw [List.take_of_length_le (by rw [List.length_append,ptsOf_length];exact Nat.le_refl _)] at this;rw [← this];(cases p with |nil => (simp at h0) |cons a p => (rfl))
/-- A valid polygon is simple and goes to the left around. -/
theorem simple_valid {p : List S35} (hV : Valid p) : Geo.Simple (ptsOf p) ∧ Geo.LL (ptsOf p) = true:=by
 have h:=Geo.simple_of (ivalid_of hV);refine ⟨h,Geo.ll_of_area h ?_⟩;rw [area_of p (by have:=hV.1;omega)];exact hV.2.2.2.2

def inTriW (a0 a1 b0 b1 c0 c1 q0 q1 : Int) : Bool:=decide (sideW a0 a1 b0 b1 q0 q1 ≥ 0) && (decide (sideW b0 b1 c0 c1 q0 q1 ≥ 0) && decide (sideW c0 c1 a0 a1 q0 q1 ≥ 0))
theorem inTri_fold (x y z : Int) : (some x).bind (fun t => if t ≥ 0 then (some y).bind fun t => if t ≥ 0 then (some z).bind fun t => some (decide (t ≥ 0)) else some false else some false) = some (decide (x ≥ 0) && (decide (y ≥ 0) && decide (z ≥ 0))):=by
 by_cases h1 : x ≥ 0;(·by_cases h2 : y ≥ 0;(·simp [h1,h2]);(·simp [h1,h2]));(·simp [h1])
theorem impl_inTriangle_eq (a0 a1 b0 b1 c0 c1 q0 q1 : Int) : impl_inTriangle.f a0 a1 b0 b1 c0 c1 q0 q1 = some (inTriW a0 a1 b0 b1 c0 c1 q0 q1):=by
 unfold impl_inTriangle.f inTriW;simp only [impl_side_eq];exact inTri_fold _ _ _
theorem spec_l04In_eq (a0 a1 b0 b1 c0 c1 q0 q1 : Int) : spec_l04In.f a0 a1 b0 b1 c0 c1 q0 q1 = some (inTriW a0 a1 b0 b1 c0 c1 q0 q1):=by
 unfold spec_l04In.f inTriW;simp only [spec_side_eq];exact inTri_fold _ _ _

theorem tmP {i n : Nat} (hn : n ≤ 1000000000) (hi : i < n) : Int.tmod (wrap64 (wrap64 ((i : Int) + (n : Int)) - 1)) (n : Int) = (((i + n - 1) % n : Nat) : Int):=by
 rw [w64 (x:=(i : Int) + n) (by omega) (by omega),w64 (by omega) (by omega),Int.tmod_eq_emod_of_nonneg (by omega),Int.natCast_emod];congr 1;omega
def triAt (p : List S35) (i j : Nat) : Bool:=inTriW (p.getD ((i + p.length - 1) % p.length) z35).f0 (p.getD ((i + p.length - 1) % p.length) z35).f1 (p.getD i z35).f0 (p.getD i z35).f1 (p.getD ((i + 1) % p.length) z35).f0 (p.getD ((i + 1) % p.length) z35).f1 (p.getD j z35).f0 (p.getD j z35).f1
def sideAt (p : List S35) (i : Nat) : Int:=sideW (p.getD ((i + p.length - 1) % p.length) z35).f0 (p.getD ((i + p.length - 1) % p.length) z35).f1 (p.getD i z35).f0 (p.getD i z35).f1 (p.getD ((i + 1) % p.length) z35).f0 (p.getD ((i + 1) % p.length) z35).f1
/-- The point i is an ear. -/
def IsEar (p : List S35) (i : Nat) : Prop:=sideAt p i = 1 ∧ ∀ m,m < p.length → m ≠ i → m ≠ (i + p.length - 1) % p.length → m ≠ (i + 1) % p.length → triAt p i m = false
theorem ear_loops (p : List S35) (hn : p.length ≤ 1000000000) (i : Nat) (hi : i < p.length) : ∀ (d j : Nat),p.length - j ≤ d → ∃ b : Bool,
  (∀ k,d < k → impl_ear.l0 k i (p.length : Int) p (p.length : Int) j (p.getD ((i + p.length - 1) % p.length) z35).f0 (p.getD ((i + p.length - 1) % p.length) z35).f1 (p.getD i z35).f0 (p.getD i z35).f1 (p.getD ((i + 1) % p.length) z35).f0 (p.getD ((i + 1) % p.length) z35).f1 = some b ∧
   spec_l04Ear.l0 k p i (p.length : Int) j (p.getD ((i + p.length - 1) % p.length) z35).f0 (p.getD ((i + p.length - 1) % p.length) z35).f1 (p.getD i z35).f0 (p.getD i z35).f1 (p.getD ((i + 1) % p.length) z35).f0 (p.getD ((i + 1) % p.length) z35).f1 = some b) ∧
  (b = true ↔ ∀ m,j ≤ m → m < p.length → m ≠ i → m ≠ (i + p.length - 1) % p.length → m ≠ (i + 1) % p.length → triAt p i m = false):=by
 intro d
 have fin : ∀ j,¬ j < p.length → ∃ b : Bool,(∀ k,0 < k → impl_ear.l0 k i (p.length : Int) p (p.length : Int) j (p.getD ((i + p.length - 1) % p.length) z35).f0 (p.getD ((i + p.length - 1) % p.length) z35).f1 (p.getD i z35).f0 (p.getD i z35).f1 (p.getD ((i + 1) % p.length) z35).f0 (p.getD ((i + 1) % p.length) z35).f1 = some b ∧
   spec_l04Ear.l0 k p i (p.length : Int) j (p.getD ((i + p.length - 1) % p.length) z35).f0 (p.getD ((i + p.length - 1) % p.length) z35).f1 (p.getD i z35).f0 (p.getD i z35).f1 (p.getD ((i + 1) % p.length) z35).f0 (p.getD ((i + 1) % p.length) z35).f1 = some b) ∧
   (b = true ↔ ∀ m,j ≤ m → m < p.length → m ≠ i → m ≠ (i + p.length - 1) % p.length → m ≠ (i + 1) % p.length → triAt p i m = false):=by
  intro j hj
  refine ⟨true,fun k hk => ?_,⟨fun _ m h1 h2 => absurd h2 (by omega),fun _ => rfl⟩⟩
  obtain ⟨k,rfl⟩ : ∃ m,k = m + 1:=⟨k - 1,by omega⟩
  simp only [impl_ear.l0,spec_l04Ear.l0]
  rw [if_neg (by omega),if_neg (by omega)]
  exact ⟨rfl,rfl⟩
 induction d with
 | zero =>
  intro j hj
  obtain ⟨b,h1,h2⟩:=fin j (by omega)
  exact ⟨b,fun k hk => h1 k (by omega),h2⟩
 | succ d ih =>
  intro j hj
  by_cases hlt : j < p.length
  ·obtain ⟨b,h1,h2⟩:=ih (j + 1) (by omega)
   by_cases c1 : j = i ∨ j = (i + p.length - 1) % p.length ∨ j = (i + 1) % p.length
   ·refine ⟨b,fun k hk => ?_,h2.trans ⟨fun h m a1 a2 a3 a4 a5 => ?_,fun h m a1 a2 a3 a4 a5 => h m (by omega) a2 a3 a4 a5⟩⟩
    ·obtain ⟨k,rfl⟩ : ∃ m,k = m + 1:=⟨k - 1,by omega⟩
     have:=h1 k (by omega)
     simp only [impl_ear.l0,spec_l04Ear.l0]
     rw [tmP hn hi,tm1 (by omega) hi,w1 (by omega)]
     have e1 : (j : Int) < (p.length : Int):=by omega
     have e2 : (0 : Int) ≤ (j : Int):=by omega
     have e3 : ¬ (p.length : Int) = 0:=by omega
     simp only [if_pos e1,if_pos e2,if_neg e3]
     by_cases a1 : (j : Int) = (i : Int)
     ·simp only [if_pos a1]
      exact this
     ·by_cases a2 : (j : Int) = (((i + p.length - 1) % p.length : Nat) : Int)
      ·simp only [if_neg a1,if_pos a2]
       exact this
      ·have a3 : (j : Int) = (((i + 1) % p.length : Nat) : Int):=by omega
       simp only [if_neg a1,if_neg a2,if_pos a3]
       exact this
    ·by_cases e : m = j
     ·exfalso
      rw [← e] at c1
      rcases c1 with c | c | c
      ·exact a3 c
      ·exact a4 c
      ·exact a5 c
     ·exact h m (by omega) a2 a3 a4 a5
   ·have c2 : j ≠ i ∧ j ≠ (i + p.length - 1) % p.length ∧ j ≠ (i + 1) % p.length:=⟨fun h => c1 (.inl h),fun h => c1 (.inr (.inl h)),fun h => c1 (.inr (.inr h))⟩
    clear c1
    refine ⟨if triAt p i j = true then false else b,fun k hk => ?_,?_⟩
    ·obtain ⟨k,rfl⟩ : ∃ m,k = m + 1:=⟨k - 1,by omega⟩
     have:=h1 k (by omega)
     simp only [impl_ear.l0,spec_l04Ear.l0]
     rw [tmP hn hi,tm1 (by omega) hi,w1 (by omega),rdN]
     have e1 : (j : Int) < (p.length : Int):=by omega
     have e2 : (0 : Int) ≤ (j : Int):=by omega
     have e3 : ¬ (p.length : Int) = 0:=by omega
     have a1 : ¬ (j : Int) = (i : Int):=by omega
     have a2 : ¬ (j : Int) = (((i + p.length - 1) % p.length : Nat) : Int):=by omega
     have a3 : ¬ (j : Int) = (((i + 1) % p.length : Nat) : Int):=by omega
     simp only [if_pos e1,if_pos e2,if_neg e3,if_neg a1,if_neg a2,if_neg a3]
     rw [impl_inTriangle_eq,spec_l04In_eq,this.1,this.2]
     unfold triAt
     simp only [Option.bind_some]
     constructor <;> split <;> rfl
    ·cases ht : triAt p i j with
     | true =>
      simp only [if_true]
      exact ⟨fun h => (by cases h),fun h => by rw [h j (Nat.le_refl _) hlt c2.1 c2.2.1 c2.2.2] at ht;cases ht⟩
     | false =>
      simp only [Bool.false_eq_true,if_false]
      rw [h2]
      refine ⟨fun h m a1 a2 a3 a4 a5 => ?_,fun h m a1 a2 a3 a4 a5 => h m (by omega) a2 a3 a4 a5⟩
      by_cases e : m = j
      ·rw [e];exact ht
      ·exact h m (by omega) a2 a3 a4 a5
  ·obtain ⟨b,h1,h2⟩:=fin j hlt
   exact ⟨b,fun k hk => h1 k (by omega),h2⟩
theorem ear_eq (p : List S35) (hn : p.length ≤ 1000000000) (i : Nat) (hi : i < p.length) : ∃ b : Bool,(∀ k,p.length < k → impl_ear.f k p i = some b ∧ spec_l04Ear.f k p i = some b) ∧ (b = true ↔ IsEar p i):=by
 obtain ⟨b,h1,h2⟩:=ear_loops p hn i hi p.length 0 (by omega);have m1:=Nat.mod_lt (i + 1) (show 0 < p.length by omega);have m2:=Nat.mod_lt (i + p.length - 1) (show 0 < p.length by omega);refine ⟨decide (sideAt p i = 1) && b,fun k hk => ?_,?_⟩;(·have:=h1 k hk;simp only [Int.natCast_zero] at this;unfold impl_ear.f spec_l04Ear.f;rw [tmP hn hi,tm1 (by omega) hi,if_neg (by omega),if_pos (by omega),if_pos (by omega),if_pos (by omega),if_pos (by omega),if_pos (by omega),if_pos (by omega),if_neg (by omega),if_pos (by omega),if_pos (by omega),if_pos (by omega),if_pos (by omega),if_pos (by omega),if_pos (by omega),rdN,rdN,rdN,impl_side_eq,spec_side_eq,this.1,this.2];unfold sideAt;simp only [Option.bind_some];generalize sideW (p.getD ((i + p.length - 1) % p.length) z35).f0 (p.getD ((i + p.length - 1) % p.length) z35).f1 (p.getD i z35).f0 (p.getD i z35).f1 (p.getD ((i + 1) % p.length) z35).f0 (p.getD ((i + 1) % p.length) z35).f1 = s;by_cases hs : s = 1;(·rw [if_pos hs,decide_eq_true hs];exact ⟨rfl,rfl⟩);(·rw [if_neg hs,decide_eq_false hs];exact ⟨rfl,rfl⟩));(·rw [Bool.and_eq_true,decide_eq_true_eq,h2];exact ⟨fun h => ⟨h.1,fun m a => h.2 m (by omega) a⟩,fun h => ⟨h.1,fun m _ a => h.2 m a⟩⟩)

/-- What is left while ears are cut off. -/
def Rest (p : List S35) : Prop:=p.length ≤ 24 ∧ (p.all fun s => okP s.f0 s.f1) = true ∧ Geo.Simple (ptsOf p) ∧ Geo.LL (ptsOf p) = true
theorem rest_valid {p : List S35} (hV : Valid p) : Rest p:=⟨hV.2.1,hV.2.2.1,simple_valid hV⟩
theorem rest_three {p : List S35} (h : Rest p) : 3 ≤ p.length:=by
 have:=h.2.2.1.1;rw [ptsOf_length] at this;exact this
theorem inC_at {p : List S35} (h : (p.all fun s => okP s.f0 s.f1) = true) (i : Nat) (hi : i < p.length) : inC (p.getD i z35).f0 (p.getD i z35).f1:=inC_of_ok (ok_at h i hi)
theorem inT_iff {a0 a1 b0 b1 c0 c1 q0 q1 : Int} (ha : inC a0 a1) (hb : inC b0 b1) (hc : inC c0 c1) (hq : inC q0 q1) : inTriW a0 a1 b0 b1 c0 c1 q0 q1 = true ↔ Geo.InT (a0,a1) (b0,b1) (c0,c1) (q0,q1):=by
 have s1:=(side_sign ha hb hq).2;have s2:=(side_sign hb hc hq).2;have s3:=(side_sign hc ha hq).2;unfold inTriW Geo.InT;rw [Bool.and_eq_true,Bool.and_eq_true,decide_eq_true_eq,decide_eq_true_eq,decide_eq_true_eq];exact and_congr ⟨fun h => by omega,fun h => by omega⟩ (and_congr ⟨fun h => by omega,fun h => by omega⟩ ⟨fun h => by omega,fun h => by omega⟩)
theorem ear_iff {p : List S35} (h : Rest p) (i : Nat) (hi : i < p.length) : IsEar p i ↔ Geo.EarI (ptsOf p) i:=by
 have h3:=rest_three h;have m1 : (i + p.length - 1) % p.length < p.length:=Nat.mod_lt _ (by omega);have m2 : (i + 1) % p.length < p.length:=Nat.mod_lt _ (by omega);have C:=inC_at h.2.1;unfold IsEar Geo.EarI;rw [ptsOf_length,pt_of p i hi,pt_of p _ m1,pt_of p _ m2];refine and_congr ?_ ?_;(·have s:=(side_sign (C _ m1) (C i hi) (C _ m2)).1;have t:=sideW_three (p.getD ((i + p.length - 1) % p.length) z35).f0 (p.getD ((i + p.length - 1) % p.length) z35).f1 (p.getD i z35).f0 (p.getD i z35).f1 (p.getD ((i + 1) % p.length) z35).f0 (p.getD ((i + 1) % p.length) z35).f1;unfold sideAt;unfold toPt;constructor;(·intro e;exact s.1 (by omega));(·intro e;have:=s.2 e;omega));(·refine forall_congr' fun m => forall_congr' fun hm => forall_congr' fun n1 => forall_congr' fun n2 => forall_congr' fun n3 => ?_;rw [pt_of p m hm];unfold triAt;rw [← Bool.not_eq_true];exact not_congr (inT_iff (C _ m1) (C i hi) (C _ m2) (C m hm)))
theorem first_of (P : Nat → Prop) : ∀ n,(∃ i,i < n ∧ P i) → ∃ i,i < n ∧ P i ∧ ∀ j,j < i → ¬ P j
 | 0,⟨i,hi,_⟩ => absurd hi (Nat.not_lt_zero i)
 | n + 1,h => by
  by_cases c : ∃ i,i < n ∧ P i
  ·obtain ⟨i,h1,h2,h3⟩:=first_of P n c
   exact ⟨i,by omega,h2,h3⟩
  ·obtain ⟨i,h1,h2⟩:=h
   refine ⟨i,h1,h2,fun j hj hp => c ⟨j,by omega,hp⟩⟩
/-- The triangle at an ear. -/
def triOf (p : List S35) (i : Nat) : List S35:=[p.getD ((i + p.length - 1) % p.length) z35,p.getD i z35,p.getD ((i + 1) % p.length) z35]
theorem erase_pts (p : List S35) (i : Nat) : ptsOf (p.eraseIdx i) = (ptsOf p).eraseIdx i:=by
 unfold ptsOf;rw [List.eraseIdx_eq_take_drop_succ,List.eraseIdx_eq_take_drop_succ,List.map_append,List.map_take,List.map_drop]
theorem rest_cut {p : List S35} (h : Rest p) (h4 : 4 ≤ p.length) {i : Nat} (hi : i < p.length) (he : IsEar p i) : Rest (p.eraseIdx i):=by
 obtain ⟨a,b⟩:=Geo.ear_cut h.2.2.1 h.2.2.2 (by rw [ptsOf_length];exact h4) (by rw [ptsOf_length];exact hi) ((ear_iff h i hi).1 he);refine ⟨?_,?_,by rw [erase_pts];exact a,by rw [erase_pts];exact b⟩;(·rw [List.length_eraseIdx_of_lt hi];have:=h.1;omega);(·rw [List.all_eq_true];intro s hs;exact List.all_eq_true.1 h.2.1 s (List.mem_of_mem_eraseIdx hs))
theorem rest_ear {p : List S35} (h : Rest p) : ∃ i,i < p.length ∧ IsEar p i ∧ ∀ j,j < i → ¬ IsEar p j:=by
 obtain ⟨i,h1,h2⟩:=Geo.ear_exists h.2.2.1 h.2.2.2;rw [ptsOf_length] at h1;exact first_of (IsEar p) p.length ⟨i,h1,(ear_iff h i h1).2 h2⟩
theorem del_eq (p : List S35) (i : Nat) (hi : i < p.length) (hn : p.length ≤ 24) : impl_Point_47.f p i (wrap64 ((i : Int) + 1)) = some (p.eraseIdx i):=by
 unfold impl_Point_47.f;rw [w1 (by omega),if_pos (by omega),if_pos (by omega),if_pos (by omega),Int.toNat_natCast]
theorem impl_find {p : List S35} (hn : p.length ≤ 24) (h3 : 3 ≤ p.length) {i : Nat} (hi : i < p.length) (he : IsEar p i) (hf : ∀ j,j < i → ¬ IsEar p j) (acc : List (List S35)) (ha : acc.length ≤ 1000) (x6 : Int) :
  ∀ (d j k : Nat),j + d = i → 30 + d ≤ k → impl_triangles.l1 k acc p (p.length : Int) x6 (p.length : Int) j = impl_triangles.l0 (k - d - 1) (acc ++ [triOf p i]) (p.eraseIdx i):=by
 have m1 : (i + p.length - 1) % p.length < p.length:=Nat.mod_lt _ (by omega);have m2 : (i + 1) % p.length < p.length:=Nat.mod_lt _ (by omega);intro d;(induction d with |zero => (intro j k hj hk;(obtain rfl : j = i:=by omega);obtain ⟨k,rfl⟩ : ∃ q,k = q + 1:=⟨k - 1,by omega⟩;obtain ⟨b,hb,hbe⟩:=ear_eq p (by omega) j hi;have hbt:=hbe.2 he;subst hbt;rw [impl_triangles.l1,if_pos (by omega),(hb k (by omega)).1,Option.bind_some,if_pos rfl,if_neg (by omega),if_neg (by omega),tmP (by omega) hi,tm1 (by omega) hi,if_pos (by omega),if_pos (by omega),if_pos (by omega),if_pos (by omega),if_pos (by omega),if_pos (by omega),if_pos (by omega),del_eq p j hi hn,Option.bind_some,rdN,rdN,rdN,show k + 1 - 0 - 1 = k by omega];rfl) |succ d ih => (intro j k hj hk;obtain ⟨k,rfl⟩ : ∃ q,k = q + 1:=⟨k - 1,by omega⟩;obtain ⟨b,hb,hbe⟩:=ear_eq p (by omega) j (by omega);(have hbf : b = false:=by (cases b with |false => (rfl) |true => (exact absurd (hbe.1 rfl) (hf j (by omega)))));subst hbf;rw [impl_triangles.l1,if_pos (by omega),(hb k (by omega)).1,Option.bind_some,if_neg (by decide),w1 (by omega),ih (j + 1) k (by omega) (by omega),show k + 1 - (d + 1) - 1 = k - d - 1 by omega]))
theorem spec_find {p : List S35} (hn : p.length ≤ 24) (h3 : 3 ≤ p.length) {i : Nat} (hi : i < p.length) (he : IsEar p i) (hf : ∀ j,j < i → ¬ IsEar p j) (acc : List (List S35)) (ha : acc.length ≤ 1000) :
  ∀ (d j k : Nat),j + d = i → 30 + d ≤ k → spec_l04Triangles.l1 k p acc (p.length : Int) j = spec_l04Triangles.l0 (k - d - 1) (p.eraseIdx i) (acc ++ [triOf p i]):=by
 have m1 : (i + p.length - 1) % p.length < p.length:=Nat.mod_lt _ (by omega);have m2 : (i + 1) % p.length < p.length:=Nat.mod_lt _ (by omega);have wn : wrap64 ((p.length : Int) - 1) = (p.length : Int) - 1:=w64 (by omega) (by omega);(have lt : (p.take i).length ≤ 24:=by rw [List.length_take];omega);(have ld : (p.drop (i + 1)).length ≤ 24:=by rw [List.length_drop];omega);intro d;(induction d with |zero => (intro j k hj hk;(obtain rfl : j = i:=by omega);obtain ⟨k,rfl⟩ : ∃ q,k = q + 1:=⟨k - 1,by omega⟩;obtain ⟨b,hb,hbe⟩:=ear_eq p (by omega) j hi;have hbt:=hbe.2 he;subst hbt;rw [spec_l04Triangles.l1,wn];by_cases c : (j : Int) < (p.length : Int) - 1;(·rw [if_pos c,(hb k (by omega)).2,Option.bind_some,if_pos rfl,if_neg (by omega),tmP (by omega) hi,tm1 (by omega) hi,if_pos (by omega),if_pos (by omega),if_pos (by omega),if_pos (by omega),if_pos (by omega),if_pos (by omega),if_pos (by omega),Option.bind_some,if_pos (by omega),Option.bind_some,Int.toNat_natCast,List.nil_append,if_pos (by simp only [List.length_nil];omega),Option.bind_some,w1 (by omega),if_pos (by omega),if_pos (by omega),Option.bind_some,Int.toNat_natCast,if_pos (by omega),rdN,rdN,rdN,show k + 1 - 0 - 1 = k by omega,← List.eraseIdx_eq_take_drop_succ];rfl);(·rw [if_neg c,if_neg (by omega),tmP (by omega) hi,tm1 (by omega) hi,if_pos (by omega),if_pos (by omega),if_pos (by omega),if_pos (by omega),if_pos (by omega),if_pos (by omega),if_pos (by omega),Option.bind_some,if_pos (by omega),Option.bind_some,Int.toNat_natCast,List.nil_append,if_pos (by simp only [List.length_nil];omega),Option.bind_some,w1 (by omega),if_pos (by omega),if_pos (by omega),Option.bind_some,Int.toNat_natCast,if_pos (by omega),rdN,rdN,rdN,show k + 1 - 0 - 1 = k by omega,← List.eraseIdx_eq_take_drop_succ];rfl)) |succ d ih => (intro j k hj hk;obtain ⟨k,rfl⟩ : ∃ q,k = q + 1:=⟨k - 1,by omega⟩;obtain ⟨b,hb,hbe⟩:=ear_eq p (by omega) j (by omega);(have hbf : b = false:=by (cases b with |false => (rfl) |true => (exact absurd (hbe.1 rfl) (hf j (by omega)))));subst hbf;rw [spec_l04Triangles.l1,wn,if_pos (by omega),(hb k (by omega)).2,Option.bind_some,if_neg (by decide),w1 (by omega),ih (j + 1) k (by omega) (by omega),show k + 1 - (d + 1) - 1 = k - d - 1 by omega]))
/-- A triangle of corners of p, to the left around. -/
def TriIn (p : List S35) (t : List S35) : Prop:=∃ a b c,t = [a,b,c] ∧ a ∈ p ∧ b ∈ p ∧ c ∈ p ∧ 0 < Geo.cr (toPt a) (toPt b) (toPt c)
theorem getD_mem (p : List S35) (i : Nat) (hi : i < p.length) : p.getD i z35 ∈ p:=by
 rw [List.getD_eq_getElem?_getD,List.getElem?_eq_getElem hi];exact List.getElem_mem hi
theorem tri_ear {p : List S35} (h : Rest p) {i : Nat} (hi : i < p.length) (he : IsEar p i) : TriIn p (triOf p i):=by
 have h3:=rest_three h;have m1 : (i + p.length - 1) % p.length < p.length:=Nat.mod_lt _ (by omega);have m2 : (i + 1) % p.length < p.length:=Nat.mod_lt _ (by omega);have hp:=((ear_iff h i hi).1 he).1;rw [ptsOf_length,pt_of p i hi,pt_of p _ m1,pt_of p _ m2] at hp;exact ⟨_,_,_,rfl,getD_mem p _ m1,getD_mem p i hi,getD_mem p _ m2,hp⟩
theorem tri_last {p : List S35} (h : Rest p) (h3 : p.length = 3) : TriIn p p:=by
 obtain ⟨i,hi,he,_⟩:=rest_ear h;obtain ⟨x,y,z,e,hx,hy,hz,hc⟩:=tri_ear h hi he;(match p,h3 with |[a,b,c],_ => (refine ⟨a,b,c,rfl,by simp,by simp,by simp,?_⟩;(obtain rfl | rfl | rfl : i = 0 ∨ i = 1 ∨ i = 2:=by simp only [List.length_cons,List.length_nil] at hi;omega);(·rw [show triOf [a,b,c] 0 = [c,a,b] by simp [triOf]] at e;injection e with e1 e2;injection e2 with e2 e3;injection e3 with e3 _;subst e1;subst e2;subst e3;rw [← Geo.cr_rot] at hc;exact hc);(·rw [show triOf [a,b,c] 1 = [a,b,c] by simp [triOf]] at e;injection e with e1 e2;injection e2 with e2 e3;injection e3 with e3 _;subst e1;subst e2;subst e3;exact hc);(·rw [show triOf [a,b,c] 2 = [b,c,a] by simp [triOf]] at e;injection e with e1 e2;injection e2 with e2 e3;injection e3 with e3 _;subst e1;subst e2;subst e3;rw [Geo.cr_rot] at hc;exact hc)))
theorem tri_loop : ∀ (d : Nat) (p : List S35) (acc : List (List S35)),p.length = d + 3 → Rest p → acc.length + d ≤ 100 → ∃ ts : List (List S35),ts.length = acc.length + d + 1 ∧ (∀ t ∈ ts,t ∈ acc ∨ TriIn p t) ∧
  ∀ k,60 * (d + 1) ≤ k → spec_l04Triangles.l0 k p acc = some ts ∧ impl_triangles.l0 k acc p = some ts:=by
 intro d;(induction d with |zero => (intro p acc hl h ha;refine ⟨acc ++ [p],by simp,fun t ht => ?_,fun k hk => ?_⟩;(·rcases List.mem_append.1 ht with h1 | h1;(·exact .inl h1);(·rw [List.mem_singleton] at h1;subst h1;exact .inr (tri_last h hl)));(·obtain ⟨k,rfl⟩ : ∃ q,k = q + 1:=⟨k - 1,by omega⟩;rw [spec_l04Triangles.l0,impl_triangles.l0,if_neg (by omega),if_neg (by omega),Option.bind_some,if_pos (by simp only [List.length_nil];omega),if_pos (by omega),if_pos (by omega)];exact ⟨rfl,rfl⟩)) |succ d ih => (intro p acc hl h ha;obtain ⟨i,hi,he,hf⟩:=rest_ear h;obtain ⟨ts,t1,t2,t3⟩:=ih (p.eraseIdx i) (acc ++ [triOf p i]) (by rw [List.length_eraseIdx_of_lt hi];omega) (rest_cut h (by omega) hi he) (by rw [List.length_append,List.length_singleton];omega);have hn:=h.1;refine ⟨ts,by rw [t1,List.length_append,List.length_singleton];omega,fun t ht => ?_,fun k hk => ?_⟩;(·rcases t2 t ht with h1 | ⟨x,y,z,e,hx,hy,hz,hc⟩;(·rcases List.mem_append.1 h1 with h1 | h1;(·exact .inl h1);(·rw [List.mem_singleton] at h1;subst h1;exact .inr (tri_ear h hi he)));(·exact .inr ⟨x,y,z,e,List.mem_of_mem_eraseIdx hx,List.mem_of_mem_eraseIdx hy,List.mem_of_mem_eraseIdx hz,hc⟩));(·obtain ⟨k,rfl⟩ : ∃ q,k = q + 1:=⟨k - 1,by omega⟩;have z0 : ((0 : Nat) : Int) = 0:=rfl;have s1:=spec_find hn (by omega) hi he hf acc (by omega) i 0 k (by omega) (by omega);have s2:=impl_find hn (by omega) hi he hf acc (by omega) (-1) i 0 k (by omega) (by omega);rw [z0] at s1 s2;rw [spec_l04Triangles.l0,impl_triangles.l0,if_pos (by omega),if_pos (by omega),s1,s2];exact t3 _ (by omega))))
/-- Both cut a valid polygon into the same triangles. -/
theorem triangles_eq {p : List S35} (hV : Valid p) : ∃ ts : List (List S35),ts.length ≤ 22 ∧ (∀ t ∈ ts,TriIn p t) ∧ ∀ k,1500 ≤ k → spec_l04Triangles.f k p = some ts ∧ impl_triangles.f k p = some ts:=by
 have hn:=hV.2.1;have h3:=hV.1;obtain ⟨ts,t1,t2,t3⟩:=tri_loop (p.length - 3) p [] (by omega) (rest_valid hV) (by simp only [List.length_nil];omega);refine ⟨ts,by simp only [List.length_nil] at t1;omega,fun t ht => (t2 t ht).elim (fun h => absurd h (by simp)) (fun h => h),fun k hk => ?_⟩;unfold spec_l04Triangles.f impl_triangles.f impl_Point_45.f;rw [Option.bind_some,if_pos (by simp only [List.length_nil];omega),if_pos (by omega),Option.bind_some];exact t3 k (by omega)

theorem rdL (X : List (List S35)) (j : Nat) : rd_L3 X (j : Int) = X.getD j []:=by
 unfold rd_L3;rw [Int.toNat_natCast]
/-- The side of a corner of u at an edge of t. -/
def sd (t u : List S35) (i j : Nat) : Int:=sideW (t.getD i z35).f0 (t.getD i z35).f1 (t.getD ((i + 1) % 3) z35).f0 (t.getD ((i + 1) % 3) z35).f1 (u.getD j z35).f0 (u.getD j z35).f1
def rtL (t u : List S35) (i : Nat) : Bool:=decide (sd t u i 0 ≤ 0) && (decide (sd t u i 1 ≤ 0) && decide (sd t u i 2 ≤ 0))
def prtL (t u : List S35) : Bool:=rtL t u 0 || (rtL t u 1 || rtL t u 2)
theorem tm3 {i : Nat} (hi : i < 3) : Int.tmod (wrap64 ((i : Int) + 1)) 3 = (((i + 1) % 3 : Nat) : Int):=tm1 (n:=3) (by omega) hi
theorem spec_step (t u : List S35) (ht : t.length = 3) (hu : u.length = 3) (i j : Nat) (hi : i < 3) (hj : j < 3) (b : Bool) (k : Nat) : spec_l04Parted.l1 (k + 1) t u i b j = spec_l04Parted.l1 k t u i (b && decide (sd t u i j ≤ 0)) ((j + 1 : Nat) : Int):=by
 have m:=Nat.mod_lt (i + 1) (show 0 < 3 by omega);rw [spec_l04Parted.l1,if_pos (by omega),w1 (show j ≤ 4611686018427387904 by omega)];(cases b with |true => (rw [if_pos rfl,tm3 hi,if_pos (by omega),if_pos (by omega),if_pos (by omega),if_pos (by omega),if_pos (by omega),if_pos (by omega),rdN,rdN,rdN,spec_side_eq,Option.bind_some];rfl) |false => (rw [if_neg (by decide)];rfl))
theorem spec_end (t u : List S35) (i : Nat) (hi : i < 3) (b : Bool) (k : Nat) : spec_l04Parted.l1 (k + 1) t u i b ((3 : Nat) : Int) = if b = true then some true else spec_l04Parted.l0 k t u ((i + 1 : Nat) : Int):=by
 rw [spec_l04Parted.l1,if_neg (by omega),w1 (by omega)]
theorem spec_row (t u : List S35) (ht : t.length = 3) (hu : u.length = 3) (i : Nat) (hi : i < 3) (k : Nat) : spec_l04Parted.l0 (k + 5) t u i = if rtL t u i = true then some true else spec_l04Parted.l0 k t u ((i + 1 : Nat) : Int):=by
 have z0 : (0 : Int) = ((0 : Nat) : Int):=rfl;rw [spec_l04Parted.l0,if_pos (by omega),z0,spec_step t u ht hu i 0 hi (by omega),spec_step t u ht hu i 1 hi (by omega),spec_step t u ht hu i 2 hi (by omega),spec_end t u i hi,Bool.true_and,Bool.and_assoc];rfl
theorem impl_step (t u : List S35) (ht : t.length = 3) (hu : u.length = 3) (i j : Nat) (hi : i < 3) (hj : j < 3) (b : Bool) (k : Nat) : impl_beside.l1 (k + 1) t u i b 3 i u 3 j = impl_beside.l1 k t u i (b && decide (sd t u i j ≤ 0)) 3 i u 3 ((j + 1 : Nat) : Int):=by
 have m:=Nat.mod_lt (i + 1) (show 0 < 3 by omega);rw [impl_beside.l1,if_pos (by omega),if_pos (by omega),if_pos (by omega),w1 (show j ≤ 4611686018427387904 by omega)];(cases b with |true => (rw [if_pos rfl,tm3 hi,if_pos (by omega),if_pos (by omega),if_pos (by omega),if_pos (by omega),rdN,rdN,rdN,impl_side_eq,Option.bind_some];rfl) |false => (rw [if_neg (by decide)];rfl))
theorem impl_end (t u : List S35) (i : Nat) (hi : i < 3) (b : Bool) (k : Nat) : impl_beside.l1 (k + 1) t u i b 3 i u 3 ((3 : Nat) : Int) = if b = true then some true else impl_beside.l0 k t u 3 ((i + 1 : Nat) : Int):=by
 rw [impl_beside.l1,if_neg (by omega),w1 (by omega)]
theorem impl_row (t u : List S35) (ht : t.length = 3) (hu : u.length = 3) (i : Nat) (hi : i < 3) (k : Nat) : impl_beside.l0 (k + 5) t u 3 i = if rtL t u i = true then some true else impl_beside.l0 k t u 3 ((i + 1 : Nat) : Int):=by
 have z0 : (0 : Int) = ((0 : Nat) : Int):=rfl;(have z3 : (u.length : Int) = 3:=by omega);rw [impl_beside.l0,if_pos (by omega),z3,z0,impl_step t u ht hu i 0 hi (by omega),impl_step t u ht hu i 1 hi (by omega),impl_step t u ht hu i 2 hi (by omega),impl_end t u i hi,Bool.true_and,Bool.and_assoc];rfl
theorem parted_eq (t u : List S35) (ht : t.length = 3) (hu : u.length = 3) (k : Nat) (hk : 20 ≤ k) : spec_l04Parted.f k t u = some (prtL t u) ∧ impl_beside.f k t u = some (prtL t u):=by
 obtain ⟨k,rfl⟩ : ∃ q,k = q + 16:=⟨k - 16,by omega⟩;have z0 : (0 : Int) = ((0 : Nat) : Int):=rfl;(have z3 : (t.length : Int) = 3:=by omega);(have s3 : spec_l04Parted.l0 (k + 1) t u ((2 + 1 : Nat) : Int) = some false:=by rw [spec_l04Parted.l0,if_neg (by omega)]);(have i3 : impl_beside.l0 (k + 1) t u 3 ((2 + 1 : Nat) : Int) = some false:=by rw [impl_beside.l0,if_neg (by omega)]);unfold spec_l04Parted.f impl_beside.f prtL;rw [z3,z0,spec_row t u ht hu 0 (by omega) (k + 11),spec_row t u ht hu 1 (by omega) (k + 6),spec_row t u ht hu 2 (by omega) (k + 1),impl_row t u ht hu 0 (by omega) (k + 11),impl_row t u ht hu 1 (by omega) (k + 6),impl_row t u ht hu 2 (by omega) (k + 1),s3,i3];cases rtL t u 0 <;> cases rtL t u 1 <;> cases rtL t u 2 <;> exact ⟨rfl,rfl⟩
/-- The two triangles are parted by an edge of one of them. -/
def PP (t u : List S35) : Bool:=prtL t u || prtL u t
theorem disj_row (X Y : List (List S35)) (i : Nat) (hi : i < X.length) (hX : ∀ t ∈ X,t.length = 3) (hY : ∀ t ∈ Y,t.length = 3) (lx : X.length ≤ 1000) (ly : Y.length ≤ 1000) : ∀ (e j : Nat),Y.length - j = e → ∃ b : Bool,(b = true ↔ ∀ m,j ≤ m → m < Y.length → PP (X.getD i []) (Y.getD m []) = true) ∧
  ∀ k,30 + e ≤ k → spec_l04Disjoint.l1 k X Y i j = (if b = true then spec_l04Disjoint.l0 (k - e - 1) X Y ((i + 1 : Nat) : Int) else some false) ∧
   impl_apart.l1 k Y (X.getD i []) X (X.length : Int) i Y (Y.length : Int) j = (if b = true then impl_apart.l0 (k - e - 1) Y X (X.length : Int) ((i + 1 : Nat) : Int) else some false):=by
 (have ti : (X.getD i []).length = 3:=by rw [List.getD_eq_getElem?_getD,List.getElem?_eq_getElem hi];exact hX _ (List.getElem_mem hi));intro e;(induction e with |zero => (intro j he;refine ⟨true,⟨fun _ m h1 h2 => absurd h2 (by omega),fun _ => rfl⟩,fun k hk => ?_⟩;obtain ⟨k,rfl⟩ : ∃ q,k = q + 1:=⟨k - 1,by omega⟩;rw [if_pos rfl,if_pos rfl,show k + 1 - 0 - 1 = k by omega];refine ⟨?_,?_⟩;(·rw [spec_l04Disjoint.l1,if_neg (by omega),w1 (by omega)]);(·rw [impl_apart.l1,if_neg (by omega),w1 (by omega)])) |succ e ih => (intro j he;(have hj : j < Y.length:=by omega);(have tj : (Y.getD j []).length = 3:=by rw [List.getD_eq_getElem?_getD,List.getElem?_eq_getElem hj];exact hY _ (List.getElem_mem hj));obtain ⟨b,hb,hr⟩:=ih (j + 1) (by omega);refine ⟨PP (X.getD i []) (Y.getD j []) && b,?_,fun k hk => ?_⟩;(·rw [Bool.and_eq_true,hb];constructor;(·rintro ⟨h1,h2⟩ m a1 a2;by_cases q : m = j;(·rw [q];exact h1);(·exact h2 m (by omega) a2));(·intro h;exact ⟨h j (Nat.le_refl _) hj,fun m a1 a2 => h m (by omega) a2⟩));(·obtain ⟨k,rfl⟩ : ∃ q,k = q + 1:=⟨k - 1,by omega⟩;obtain ⟨r1,r2⟩:=hr k (by omega);obtain ⟨p1,p2⟩:=parted_eq (X.getD i []) (Y.getD j []) ti tj k (by omega);obtain ⟨q1,q2⟩:=parted_eq (Y.getD j []) (X.getD i []) tj ti k (by omega);rw [show k + 1 - (e + 1) - 1 = k - e - 1 by omega];unfold PP;refine ⟨?_,?_⟩;(·rw [spec_l04Disjoint.l1,if_pos (by omega),if_pos (by omega),if_pos (by omega),if_pos (by omega),rdL,rdL,w1 (show j ≤ 4611686018427387904 by omega),p1,q1,r1];cases prtL (X.getD i []) (Y.getD j []) <;> cases prtL (Y.getD j []) (X.getD i []) <;> cases b <;> rfl);(·rw [impl_apart.l1,if_pos (by omega),if_pos (by omega),if_pos (by omega),rdL,w1 (show j ≤ 4611686018427387904 by omega),p2,q2,r2];cases prtL (X.getD i []) (Y.getD j []) <;> cases prtL (Y.getD j []) (X.getD i []) <;> cases b <;> rfl))))
theorem disj_loop (X Y : List (List S35)) (hX : ∀ t ∈ X,t.length = 3) (hY : ∀ t ∈ Y,t.length = 3) (lx : X.length ≤ 1000) (ly : Y.length ≤ 1000) : ∀ (d i : Nat),X.length - i = d → ∃ b : Bool,(b = true ↔ ∀ n m,i ≤ n → n < X.length → m < Y.length → PP (X.getD n []) (Y.getD m []) = true) ∧
  ∀ k,40 + (Y.length + 5) * d ≤ k → spec_l04Disjoint.l0 k X Y i = some b ∧ impl_apart.l0 k Y X (X.length : Int) i = some b:=by
 intro d;(induction d with |zero => (intro i he;refine ⟨true,⟨fun _ n m h1 h2 => absurd h2 (by omega),fun _ => rfl⟩,fun k hk => ?_⟩;obtain ⟨k,rfl⟩ : ∃ q,k = q + 1:=⟨k - 1,by omega⟩;rw [spec_l04Disjoint.l0,impl_apart.l0,if_neg (by omega),if_neg (by omega)];exact ⟨rfl,rfl⟩) |succ d ih => (intro i he;(have hi : i < X.length:=by omega);obtain ⟨b,hb,hr⟩:=ih (i + 1) (by omega);obtain ⟨c,hc,hs⟩:=disj_row X Y i hi hX hY lx ly Y.length 0 (by omega);refine ⟨c && b,?_,fun k hk => ?_⟩;(·rw [Bool.and_eq_true,hb,hc];constructor;(·rintro ⟨h1,h2⟩ n m a1 a2 a3;by_cases q : n = i;(·rw [q];exact h1 m (Nat.zero_le _) a3);(·exact h2 n m (by omega) a2 a3));(·intro h;exact ⟨fun m _ a => h i m (Nat.le_refl _) hi a,fun n m a1 a2 a3 => h n m (by omega) a2 a3⟩));(·rw [Nat.mul_succ] at hk;obtain ⟨k,rfl⟩ : ∃ q,k = q + 1:=⟨k - 1,by omega⟩;have z0 : ((0 : Nat) : Int) = 0:=rfl;obtain ⟨r1,r2⟩:=hr (k - Y.length - 1) (by omega);obtain ⟨s1,s2⟩:=hs k (by omega);rw [z0] at s1 s2;refine ⟨?_,?_⟩;(·rw [spec_l04Disjoint.l0,if_pos (by omega),s1,r1];cases c <;> cases b <;> rfl);(·rw [impl_apart.l0,if_pos (by omega),if_pos (by omega),if_pos (by omega),rdL,s2,r2];cases c <;> cases b <;> rfl))))
/-- The box of a list of points. -/
def Boxed (p : List S35) (i : Nat) (r : Int × Int × Int × Int) : Prop:=∀ m,i ≤ m → m < p.length → r.1 ≤ (p.getD m z35).f0 ∧ r.2.1 ≤ (p.getD m z35).f1 ∧ (p.getD m z35).f0 ≤ r.2.2.1 ∧ (p.getD m z35).f1 ≤ r.2.2.2
theorem box_loop (p : List S35) (hn : p.length ≤ 1000) : ∀ (d i : Nat) (a b c e : Int),p.length - i ≤ d → ∃ r : Int × Int × Int × Int,(r.1 ≤ a ∧ r.2.1 ≤ b ∧ c ≤ r.2.2.1 ∧ e ≤ r.2.2.2) ∧ Boxed p i r ∧ ∀ k,d < k → impl_bounds.l0 k p (p.length : Int) i a b c e = some r:=by
 intro d;(induction d with |zero => (intro i a b c e hi;refine ⟨(a,b,c,e),⟨Int.le_refl _,Int.le_refl _,Int.le_refl _,Int.le_refl _⟩,fun m h1 h2 => absurd h2 (by omega),fun k hk => ?_⟩;obtain ⟨k,rfl⟩ : ∃ m,k = m + 1:=⟨k - 1,by omega⟩;rw [impl_bounds.l0,if_neg (by omega)]) |succ d ih => (intro i a b c e hi;by_cases hlt : i < p.length;(·obtain ⟨r,⟨g1,g2,g3,g4⟩,hb,hr⟩:=ih (i + 1) (mn a ((p.getD i z35).f0)) (mn b ((p.getD i z35).f1)) (mx c ((p.getD i z35).f0)) (mx e ((p.getD i z35).f1)) (by omega);(have n1 : mn a ((p.getD i z35).f0) ≤ a ∧ mn a ((p.getD i z35).f0) ≤ (p.getD i z35).f0:=by unfold mn;split <;> omega);(have n2 : mn b ((p.getD i z35).f1) ≤ b ∧ mn b ((p.getD i z35).f1) ≤ (p.getD i z35).f1:=by unfold mn;split <;> omega);(have n3 : c ≤ mx c ((p.getD i z35).f0) ∧ (p.getD i z35).f0 ≤ mx c ((p.getD i z35).f0):=by unfold mx;split <;> omega);(have n4 : e ≤ mx e ((p.getD i z35).f1) ∧ (p.getD i z35).f1 ≤ mx e ((p.getD i z35).f1):=by unfold mx;split <;> omega);refine ⟨r,⟨by omega,by omega,by omega,by omega⟩,fun m h1 h2 => ?_,fun k hk => ?_⟩;(·by_cases q : m = i;(·subst q;exact ⟨by omega,by omega,by omega,by omega⟩);(·exact hb m (by omega) h2));(·obtain ⟨k,rfl⟩ : ∃ m,k = m + 1:=⟨k - 1,by omega⟩;rw [impl_bounds.l0,if_pos (by omega),if_pos (by omega),if_pos (by omega),rdN,w1 (by omega)];exact hr k (by omega)));(·refine ⟨(a,b,c,e),⟨Int.le_refl _,Int.le_refl _,Int.le_refl _,Int.le_refl _⟩,fun m h1 h2 => absurd h2 (by omega),fun k hk => ?_⟩;obtain ⟨k,rfl⟩ : ∃ m,k = m + 1:=⟨k - 1,by omega⟩;rw [impl_bounds.l0,if_neg (by omega)])))
theorem box_eq {p : List S35} (hV : Valid p) : ∃ r : Int × Int × Int × Int,Boxed p 0 r ∧ ∀ k,30 ≤ k → impl_bounds.f k p = some r:=by
 have h3:=hV.1;have hn:=hV.2.1;have e0 : zB p 0 = p.getD 0 z35:=rdN p 0;obtain ⟨r,_,hb,hr⟩:=box_loop p (by omega) p.length 0 (p.getD 0 z35).f0 (p.getD 0 z35).f1 (p.getD 0 z35).f0 (p.getD 0 z35).f1 (by omega);refine ⟨r,hb,fun k hk => ?_⟩;unfold impl_bounds.f;rw [if_pos (by omega),e0];exact hr k (by omega)
theorem box_mem {p : List S35} {r : Int × Int × Int × Int} (h : Boxed p 0 r) {s : S35} (hs : s ∈ p) : r.1 ≤ s.f0 ∧ r.2.1 ≤ s.f1 ∧ s.f0 ≤ r.2.2.1 ∧ s.f1 ≤ r.2.2.2:=by
 obtain ⟨m,hm,rfl⟩:=List.mem_iff_getElem.1 hs;have:=h m (Nat.zero_le _) hm;rw [List.getD_eq_getElem?_getD,List.getElem?_eq_getElem hm] at this;exact this
theorem inC_mem {p : List S35} (hV : Valid p) {s : S35} (hs : s ∈ p) : inC s.f0 s.f1:=inC_of_ok (List.all_eq_true.1 hV.2.2.1 s hs)
theorem rt_iff {a b x y z : S35} (ha : inC a.f0 a.f1) (hb : inC b.f0 b.f1) (hx : inC x.f0 x.f1) (hy : inC y.f0 y.f1) (hz : inC z.f0 z.f1) :
  (decide (sideW a.f0 a.f1 b.f0 b.f1 x.f0 x.f1 ≤ 0) && (decide (sideW a.f0 a.f1 b.f0 b.f1 y.f0 y.f1 ≤ 0) && decide (sideW a.f0 a.f1 b.f0 b.f1 z.f0 z.f1 ≤ 0))) = true ↔ Geo.Rt (toPt a) (toPt b) (toPt x) (toPt y) (toPt z):=by
 have s1:=(side_sign ha hb hx).1;have s2:=(side_sign ha hb hy).1;have s3:=(side_sign ha hb hz).1;unfold Geo.Rt toPt;rw [Bool.and_eq_true,Bool.and_eq_true,decide_eq_true_eq,decide_eq_true_eq,decide_eq_true_eq];exact and_congr ⟨fun h => by omega,fun h => by omega⟩ (and_congr ⟨fun h => by omega,fun h => by omega⟩ ⟨fun h => by omega,fun h => by omega⟩)
theorem prt_iff {a b c x y z : S35} (ha : inC a.f0 a.f1) (hb : inC b.f0 b.f1) (hc : inC c.f0 c.f1) (hx : inC x.f0 x.f1) (hy : inC y.f0 y.f1) (hz : inC z.f0 z.f1) : prtL [a,b,c] [x,y,z] = true ↔ Geo.Prt (toPt a) (toPt b) (toPt c) (toPt x) (toPt y) (toPt z):=by
 unfold prtL Geo.Prt;rw [Bool.or_eq_true,Bool.or_eq_true];exact or_congr (rt_iff ha hb hx hy hz) (or_congr (rt_iff hb hc hx hy hz) (rt_iff hc ha hx hy hz))
theorem fx (D : Geo.Pt) (s : S35) : Geo.fD D (toPt s) = s.f0 * D.2 - s.f1 * D.1:=rfl
/-- Where the boxes lie apart, each two triangles are parted. -/
theorem boxes_apart {p q : List S35} (hp : Valid p) (hq : Valid q) {D : Geo.Pt} (hD : D ≠ (0,0)) (h : ∀ s ∈ p,∀ t ∈ q,Geo.fD D (toPt s) ≤ Geo.fD D (toPt t)) {t u : List S35} (ht : TriIn p t) (hu : TriIn q u) : PP t u = true ∧ PP u t = true:=by
 obtain ⟨a,b,c,rfl,pa,pb,pc,h1⟩:=ht
 obtain ⟨x,y,z,rfl,qx,qy,qz,h2⟩:=hu
 have key:=Geo.sat h1 h2 hD (by
  rintro s t (rfl | rfl | rfl) (rfl | rfl | rfl)
  ·exact h _ pa _ qx
  ·exact h _ pa _ qy
  ·exact h _ pa _ qz
  ·exact h _ pb _ qx
  ·exact h _ pb _ qy
  ·exact h _ pb _ qz
  ·exact h _ pc _ qx
  ·exact h _ pc _ qy
  ·exact h _ pc _ qz)
 have i1:=prt_iff (inC_mem hp pa) (inC_mem hp pb) (inC_mem hp pc) (inC_mem hq qx) (inC_mem hq qy) (inC_mem hq qz)
 have i2:=prt_iff (inC_mem hq qx) (inC_mem hq qy) (inC_mem hq qz) (inC_mem hp pa) (inC_mem hp pb) (inC_mem hp pc)
 unfold PP
 rw [Bool.or_eq_true,Bool.or_eq_true,i1,i2]
 exact ⟨key,key.symm⟩
theorem tri_len {p t : List S35} (h : TriIn p t) : t.length = 3:=by
 obtain ⟨a,b,c,rfl,_⟩:=h;rfl
/-- Both tell two valid polygons apart alike. -/
theorem apart_eq {a b : List S35} (ha : Valid a) (hb : Valid b) : ∃ r : Bool,∀ k,2000 ≤ k → spec_l04Disjoint.f k a b = some r ∧ impl_apart.f k a b = some r:=by
 obtain ⟨X,x1,x2,x3⟩:=triangles_eq ha;obtain ⟨Y,y1,y2,y3⟩:=triangles_eq hb;obtain ⟨A,a1,a2⟩:=box_eq ha;obtain ⟨B,b1,b2⟩:=box_eq hb;obtain ⟨r,hr,hk⟩:=disj_loop X Y (fun t h => tri_len (x2 t h)) (fun t h => tri_len (y2 t h)) (by omega) (by omega) X.length 0 (by omega);(have bound : 40 + (Y.length + 5) * X.length ≤ 40 + 27 * 22:=by have:=Nat.mul_le_mul (show Y.length + 5 ≤ 27 by omega) x1;omega);(have memX : ∀ n,n < X.length → TriIn a (X.getD n []):=fun n hn => by rw [List.getD_eq_getElem?_getD,List.getElem?_eq_getElem hn];exact x2 _ (List.getElem_mem hn));(have memY : ∀ n,n < Y.length → TriIn b (Y.getD n []):=fun n hn => by rw [List.getD_eq_getElem?_getD,List.getElem?_eq_getElem hn];exact y2 _ (List.getElem_mem hn));(have far : (A.2.2.1 ≤ B.1 ∨ B.2.2.1 ≤ A.1 ∨ A.2.2.2 ≤ B.2.1 ∨ B.2.2.2 ≤ A.2.1) → r = true:=by intro h;refine hr.2 fun n m _ h1 h2 => ?_;rcases h with h | h | h | h;(·exact (boxes_apart ha hb (D:=(0,1)) (by decide) (fun s hs t ht => by have:=box_mem a1 hs;have:=box_mem b1 ht;rw [fx,fx];simp only;omega) (memX n h1) (memY m h2)).1);(·exact (boxes_apart ha hb (D:=(0,-1)) (by decide) (fun s hs t ht => by have:=box_mem a1 hs;have:=box_mem b1 ht;rw [fx,fx];simp only;omega) (memX n h1) (memY m h2)).1);(·exact (boxes_apart ha hb (D:=(-1,0)) (by decide) (fun s hs t ht => by have:=box_mem a1 hs;have:=box_mem b1 ht;rw [fx,fx];simp only;omega) (memX n h1) (memY m h2)).1);(·exact (boxes_apart ha hb (D:=(1,0)) (by decide) (fun s hs t ht => by have:=box_mem a1 hs;have:=box_mem b1 ht;rw [fx,fx];simp only;omega) (memX n h1) (memY m h2)).1));have z0 : ((0 : Nat) : Int) = 0:=rfl;refine ⟨r,fun k hk2 => ⟨?_,?_⟩⟩;(·unfold spec_l04Disjoint.f;rw [(x3 k (by omega)).1,(y3 k (by omega)).1,Option.bind_some,Option.bind_some];have:=(hk k (by omega)).1;rw [z0] at this;exact this);(·obtain ⟨k,rfl⟩ : ∃ q,k = q + 1:=⟨k - 1,by omega⟩;have:=(hk k (by omega)).2;rw [z0] at this;unfold impl_apart.f;rw [a2 _ (by omega),b2 _ (by omega),Option.bind_some,Option.bind_some];(have jt : impl_apart.j0 (k + 1) a b true = some true:=by rw [impl_apart.j0,if_pos rfl]);(have jf : impl_apart.j0 (k + 1) a b false = some r:=by rw [impl_apart.j0,if_neg (by decide),(y3 k (by omega)).2,(x3 k (by omega)).2,Option.bind_some,Option.bind_some,this]);by_cases c1 : A.2.2.1 ≤ B.1;(·rw [if_pos c1,jt,far (.inl c1)]);rw [if_neg c1];by_cases c2 : B.2.2.1 ≤ A.1;(·rw [if_pos c2,jt,far (.inr (.inl c2))]);rw [if_neg c2];by_cases c3 : A.2.2.2 ≤ B.2.1;(·rw [if_pos c3,jt,far (.inr (.inr (.inl c3)))]);rw [if_neg c3];by_cases c4 : B.2.2.2 ≤ A.2.1;(·rw [decide_eq_true c4,jt,far (.inr (.inr (.inr c4)))]);(·rw [decide_eq_false c4,jf]))

theorem eqPoint_self (x y : Int) : laws_eqPoint.f x y x y = some true:=by
 unfold laws_eqPoint.f;rw [if_pos rfl,if_pos rfl]
theorem eqPointS_loop (l : List S35) (h : l.length ≤ 1000000000) : ∀ (d k i : Nat),l.length - i ≤ d → d < k → laws_eqPointS.l0 k l l i = some true
 | d,0,i,_,h2 => absurd h2 (by omega)
 | d,k + 1,i,h1,h2 => by
  simp only [laws_eqPointS.l0]
  by_cases hi : i < l.length
  ·rw [if_pos (by omega),if_pos (by omega),if_pos (by omega),eqPoint_self,Option.bind_some,if_pos rfl,w1 (by omega)]
   exact eqPointS_loop l h (d - 1) k (i + 1) (by omega) (by omega)
  ·rw [if_neg (by omega)]
theorem eqPointS_self (l : List S35) (h : l.length ≤ 1000000000) (k : Nat) (hk : l.length < k) : laws_eqPointS.f k l l = some true:=by
 unfold laws_eqPointS.f;rw [if_pos rfl];exact eqPointS_loop l h l.length k 0 (by omega) hk

/-- The law's points as the program's. -/
def conv (l : List S37) : List S35:=l.map fun s => ⟨s.f0,s.f1⟩
theorem conv_length (l : List S37) : (conv l).length = l.length:=by
 unfold conv;rw [List.length_map]
theorem sz_small (l : List S37) (h : l.length ≤ 1048576) : laws_szPointS.f l 1048576 = some (1048576 - (l.length : Int)):=by
 unfold laws_szPointS.f;rw [w64 (by omega) (by omega),if_neg (by omega)]
theorem sz_large (l : List S37) (hm : l.length ≤ 9223372036854775807) (h : 1048576 < l.length) : laws_szPointS.f l 1048576 = some (-1):=by
 unfold laws_szPointS.f;rw [w64 (by omega) (by omega),if_pos (by omega)]
theorem rdLN (l : List S37) (j : Nat) : zL l (j : Int) = l.getD j z37:=by
 unfold zL;rw [Int.toNat_natCast]
theorem toPointS_loop (l : List S37) (h : l.length ≤ 1048576) : ∀ (d k i : Nat) (x : List S35),i ≤ l.length → l.length - i ≤ d → d < k → x.length = l.length → laws_toPointS.l0 k l x i = some (x.take i ++ (conv l).drop i)
 | d,0,i,x,_,_,h2,_ => absurd h2 (by omega)
 | d,k + 1,i,x,h0,h1,h2,hx => by
  simp only [laws_toPointS.l0,laws_toPoint.f]
  by_cases hi : i < l.length
  ·rw [if_pos (by omega),if_pos (by omega),Option.bind_some,if_pos (by omega),w1 (by omega),toPointS_loop l h (d - 1) k (i + 1) _ (by omega) (by omega) (by omega) (by rw [List.length_set,hx]),rdLN]
   have e : l.getD i z37 = l[i]:=by
    rw [List.getD_eq_getElem?_getD,List.getElem?_eq_getElem hi]
    rfl
   rw [e,Int.toNat_natCast,List.take_succ_eq_append_getElem (by rw [List.length_set,hx];exact hi),List.getElem_set_self,List.take_set_of_le (Nat.le_refl _),List.append_assoc]
   congr 2
   rw [List.drop_eq_getElem_cons (i:=i) (by rw [conv_length];exact hi)]
   unfold conv
   rw [List.getElem_map]
   rfl
  ·rw [if_neg (by omega),List.take_of_length_le (by omega),List.drop_eq_nil_of_le (by rw [conv_length];omega),List.append_nil]
theorem toPointS_eq (l : List S37) (h : l.length ≤ 1048576) (k : Nat) (hk : l.length < k) : laws_toPointS.f k l = some (conv l):=by
 unfold laws_toPointS.f;rw [if_pos (by omega),if_pos (by omega)];have:=toPointS_loop l h l.length k 0 (List.replicate ((l.length : Int) : Int).toNat z35) (by omega) (by omega) hk (by rw [List.length_replicate,Int.toNat_natCast]);simp only [Int.natCast_zero] at this;rw [this,List.take_zero,List.nil_append,List.drop_zero]

theorem back_eq (l : List S37) (h : l.length ≤ 1048576) (k : Nat) (hk : l.length < k) : ((laws_toPointS.f k l).bind fun t => (laws_eqPointS.f k (conv l) t).bind fun b => if b = true then some true else some false) = some true:=by
 rw [toPointS_eq l h k hk,Option.bind_some,eqPointS_self (conv l) (by rw [conv_length];omega) k (by rw [conv_length];omega)];rfl

theorem p_ext {x y : S35} (h0 : x.f0 = y.f0) (h1 : x.f1 = y.f1) : x = y:=by
 cases x;cases y;simp_all
theorem getD_set_self (x : List S35) (i : Nat) (v : S35) (h : i < x.length) : (x.set i v).getD i z35 = v:=by
 rw [List.getD_eq_getElem?_getD,List.getElem?_set_self h];rfl
theorem getD_set_ne (x : List S35) (i j : Nat) (v : S35) (h : i ≠ j) : (x.set i v).getD j z35 = x.getD j z35:=by
 rw [List.getD_eq_getElem?_getD,List.getElem?_set_ne h,List.getD_eq_getElem?_getD]
theorem mark_loop (n : Nat) (hn : n ≤ 1000000000) : ∀ (d k i : Nat) (x : List S35),x.length = n → i ≤ n → n - i ≤ d → d < k → (∀ j,j < i → x.getD j z35 = ⟨1 + 2 * (j : Int),1 + 2 * (j : Int) + 1⟩) →
  ∃ m : List S35,laws_markPointS.l0 k x (1 + 2 * (i : Int)) i = some (1 + 2 * (n : Int),m) ∧ m.length = n ∧ ∀ j,j < n → m.getD j z35 = ⟨1 + 2 * (j : Int),1 + 2 * (j : Int) + 1⟩
 | d,0,i,x,_,_,_,h,_ => absurd h (by omega)
 | d,k + 1,i,x,hx,hi,h1,h2,hm => by
  simp only [laws_markPointS.l0]
  by_cases hlt : i < n
  ·rw [if_pos (by omega),if_pos (by omega),Option.bind_some,Int.toNat_natCast,rdN,rdN,getD_set_self x i _ (by omega),w1 (by omega),w64 (x:=1 + 2 * (i : Int) + 1) (by omega) (by omega),w64 (x:=1 + 2 * (i : Int) + 1 + 1) (by omega) (by omega)]
   have:=mark_loop n hn (d - 1) k (i + 1) ((x.set i ⟨1 + 2 * (i : Int),(x.getD i z35).f1⟩).set i ⟨1 + 2 * (i : Int),1 + 2 * (i : Int) + 1⟩) (by simp [hx]) (by omega) (by omega) (by omega) (fun j hj => by
    by_cases e : i = j
    ·subst e
     rw [getD_set_self _ _ _ (by simp;omega)]
    ·rw [getD_set_ne _ _ _ _ e,getD_set_ne _ _ _ _ e]
     exact hm j (by omega))
   rw [show (1 + 2 * (i : Int) + 1 + 1) = 1 + 2 * ((i + 1 : Nat) : Int) by omega]
   exact this
  ·have e : i = n:=by omega
   subst e
   exact ⟨x,by rw [if_neg (by omega)],hx,hm⟩
theorem marked (x : List S35) (hn : x.length ≤ 1000000000) : ∃ (n : Int) (m : List S35),0 < n ∧ (∀ k,x.length < k → laws_markPointS.f k x 1 = some (n,m)):=by
 obtain ⟨m,h1,h2,h3⟩:=mark_loop x.length hn x.length (x.length + 1) 0 x rfl (by omega) (by omega) (by omega) (fun j hj => absurd hj (by omega));refine ⟨1 + 2 * (x.length : Int),m,by omega,fun k hk => ?_⟩;unfold laws_markPointS.f;exact at_rounds (fun k => laws_markPointS.mono_l k _ _ _) (show x.length + 1 ≤ k by omega) h1

theorem pmark_at (n : Nat) (hn : n ≤ 1048576) (a : Int) (ha : 0 ≤ a ∧ a ≤ 1000000000000) : ∀ (d i : Nat) (x : List S35),x.length = n → i ≤ n → n - i ≤ d → (∀ j,j < i → x.getD j z35 = ⟨a + 2 * (j : Int),a + 2 * (j : Int) + 1⟩) →
  ∃ m : List S35,m.length = n ∧ (∀ j,j < n → m.getD j z35 = ⟨a + 2 * (j : Int),a + 2 * (j : Int) + 1⟩) ∧ ∀ k,d < k → laws_markPointS.l0 k x (a + 2 * (i : Int)) i = some (a + 2 * (n : Int),m):=by
 intro d
 induction d with
 | zero =>
  intro i x hx hi h1 hm
  obtain rfl : i = n:=by omega
  refine ⟨x,hx,hm,fun k hk => ?_⟩
  obtain ⟨k,rfl⟩ : ∃ q,k = q + 1:=⟨k - 1,by omega⟩
  simp only [laws_markPointS.l0]
  rw [if_neg (by omega)]
 | succ d ih =>
  intro i x hx hi h1 hm
  by_cases hlt : i < n
  ·obtain ⟨m,g1,g2,g3⟩:=ih (i + 1) ((x.set i ⟨a + 2 * (i : Int),(x.getD i z35).f1⟩).set i ⟨a + 2 * (i : Int),a + 2 * (i : Int) + 1⟩) (by simp [hx]) (by omega) (by omega) (fun j hj => by
    by_cases e : i = j
    ·subst e
     rw [getD_set_self _ _ _ (by simp;omega)]
    ·rw [getD_set_ne _ _ _ _ e,getD_set_ne _ _ _ _ e]
     exact hm j (by omega))
   refine ⟨m,g1,g2,fun k hk => ?_⟩
   obtain ⟨k,rfl⟩ : ∃ q,k = q + 1:=⟨k - 1,by omega⟩
   simp only [laws_markPointS.l0]
   rw [if_pos (by omega),if_pos (by omega),Option.bind_some,Int.toNat_natCast,rdN,rdN,getD_set_self x i _ (by omega),w1 (by omega),w64 (x:=a + 2 * (i : Int) + 1) (by omega) (by omega),w64 (x:=a + 2 * (i : Int) + 1 + 1) (by omega) (by omega)]
   have:=g3 k (by omega)
   rw [show a + 2 * (i : Int) + 1 + 1 = a + 2 * ((i + 1 : Nat) : Int) by omega]
   exact this
  ·obtain rfl : i = n:=by omega
   refine ⟨x,hx,hm,fun k hk => ?_⟩
   obtain ⟨k,rfl⟩ : ∃ q,k = q + 1:=⟨k - 1,by omega⟩
   simp only [laws_markPointS.l0]
   rw [if_neg (by omega)]

theorem held_loop (n : Nat) (hn : n ≤ 1000000000) (m : List S35) (hl : m.length = n) (hm : ∀ j,j < n → m.getD j z35 = ⟨1 + 2 * (j : Int),1 + 2 * (j : Int) + 1⟩) : ∀ (d k i : Nat),i ≤ n → n - i ≤ d → d < k → laws_heldPointS.l0 k m (1 + 2 * (i : Int)) i = some (1 + 2 * (n : Int))
 | d,0,i,_,_,h => absurd h (by omega)
 | d,k + 1,i,hi,h1,h2 => by
  simp only [laws_heldPointS.l0]
  by_cases hlt : i < n
  ·rw [if_pos (by omega),if_pos (by omega),rdN,hm i hlt,if_pos rfl,w64 (x:=1 + 2 * (i : Int) + 1) (by omega) (by omega),if_pos rfl,w1 (by omega),w64 (x:=1 + 2 * (i : Int) + 1 + 1) (by omega) (by omega),show (1 + 2 * (i : Int) + 1 + 1) = 1 + 2 * ((i + 1 : Nat) : Int) by omega]
   exact held_loop n hn m hl hm (d - 1) k (i + 1) (by omega) (by omega) (by omega)
  ·rw [if_neg (by omega),show i = n by omega]
/-- What is marked is held. -/
theorem mark_held (x : List S35) (hn : x.length ≤ 1000000000) : ∃ (n : Int) (m : List S35),0 < n ∧ (∀ k,x.length < k → laws_markPointS.f k x 1 = some (n,m)) ∧ (∀ k,x.length < k → laws_heldPointS.f k m 1 = some n):=by
 obtain ⟨m,h1,h2,h3⟩:=mark_loop x.length hn x.length (x.length + 1) 0 x rfl (by omega) (by omega) (by omega) (fun j hj => absurd hj (by omega));refine ⟨1 + 2 * (x.length : Int),m,by omega,fun k hk => ?_,fun k hk => ?_⟩;(·unfold laws_markPointS.f;exact at_rounds (fun k => laws_markPointS.mono_l k _ _ _) (show x.length + 1 ≤ k by omega) h1);(·unfold laws_heldPointS.f;exact held_loop x.length hn m h2 h3 x.length k 0 (by omega) (by omega) hk)

theorem rdEP (l : List S39) (j : Nat) : zE l (j : Int) = l.getD j z39:=by
 unfold zE;rw [Int.toNat_natCast]
theorem getEP (l : List S39) (j : Nat) (h : j < l.length) : l.getD j z39 = l[j]:=by
 rw [List.getD_eq_getElem?_getD,List.getElem?_eq_getElem h];rfl
/-- A polygon's edges. -/
def edgesP (p : List S35) : List S39:=(List.range p.length).map fun i => ⟨p.getD i z35,p.getD ((i + 1) % p.length) z35⟩
theorem edgesP_length (p : List S35) : (edgesP p).length = p.length:=by
 unfold edgesP;rw [List.length_map,List.length_range]
theorem edgesP_get (p : List S35) (i : Nat) (h : i < (edgesP p).length) : (edgesP p)[i] = ⟨p.getD i z35,p.getD ((i + 1) % p.length) z35⟩:=by
 simp [edgesP]
theorem edgesP_drop (p : List S35) (i : Nat) (h : i < p.length) : (edgesP p).drop i = (⟨p.getD i z35,p.getD ((i + 1) % p.length) z35⟩ : S39) :: (edgesP p).drop (i + 1):=by
 rw [List.drop_eq_getElem_cons (i:=i) (by rw [edgesP_length];exact h),edgesP_get]
def revB (e s : S39) : Bool:=decide ((e.f1.f0 = s.f0.f0 ∧ e.f1.f1 = s.f0.f1) ∧ (e.f0.f0 = s.f1.f0 ∧ e.f0.f1 = s.f1.f1))
theorem revB_comm (e s : S39) : revB e s = revB s e:=by
 unfold revB;apply decide_eq_decide.2;constructor;(·rintro ⟨⟨a,b⟩,c,d⟩;exact ⟨⟨c.symm,d.symm⟩,a.symm,b.symm⟩);(·rintro ⟨⟨a,b⟩,c,d⟩;exact ⟨⟨c.symm,d.symm⟩,a.symm,b.symm⟩)
theorem revB_impl (e s : S39) : ((e.f1.f0 == s.f0.f0 && (e.f1.f1 == s.f0.f1)) && ((e.f0.f0 == s.f1.f0 && (e.f0.f1 == s.f1.f1)))) = revB e s:=by
 unfold revB;rw [Bool.eq_iff_iff];simp only [Bool.and_eq_true,beq_iff_eq,decide_eq_true_eq]
theorem revB_spec (e s : S39) : ((s.f0.f0 == e.f1.f0 && (s.f0.f1 == e.f1.f1)) && ((s.f1.f0 == e.f0.f0 && (s.f1.f1 == e.f0.f1)))) = revB e s:=by
 unfold revB;rw [Bool.eq_iff_iff];simp only [Bool.and_eq_true,beq_iff_eq,decide_eq_true_eq];constructor;(·rintro ⟨⟨a,b⟩,c,d⟩;exact ⟨⟨a.symm,b.symm⟩,c.symm,d.symm⟩);(·rintro ⟨⟨a,b⟩,c,d⟩;exact ⟨⟨a.symm,b.symm⟩,c.symm,d.symm⟩)
def revIn (os : List S39) (e : S39) : Bool:=os.any fun s => revB e s
def restE (es os : List S39) : List S39:=es.filter fun e => !revIn os e
theorem join_e1 (a b : List S35) (ha : a.length ≤ 24) (K : Nat) (R : List S35 × Int) : ∀ (d k i : Nat) (out : List S39),a.length - i = d → K + d < k → out.length ≤ i →
  (∀ k,K ≤ k → impl_JoinPolygons.l1 k a b (out ++ (edgesP a).drop i) (b.length : Int) 0 = some R) → impl_JoinPolygons.l0 k a b out (a.length : Int) i = some R
 | d,0,i,out,_,h2,_,_ => absurd h2 (by omega)
 | 0,k + 1,i,out,h1,h2,h3,hR => by
  simp only [impl_JoinPolygons.l0]
  rw [if_neg (by omega)]
  have:=hR k (by omega)
  rw [List.drop_eq_nil_of_le (by rw [edgesP_length];omega),List.append_nil] at this
  exact this
 | d + 1,k + 1,i,out,h1,h2,h3,hR => by
  simp only [impl_JoinPolygons.l0]
  have hi : i < a.length:=by omega
  have hj : (i + 1) % a.length < a.length:=Nat.mod_lt _ (by omega)
  rw [if_pos (by omega),if_pos (by omega),if_pos (by omega),if_neg (by omega),tm1 (by omega) hi,if_pos (by omega),if_pos (by omega),if_pos (by omega),rdN,rdN,w1 (by omega)]
  refine join_e1 a b ha K R d k (i + 1) _ (by omega) (by omega) (by rw [List.length_append];simp;omega) (fun k hk => ?_)
  have:=hR k hk
  rw [edgesP_drop a i hi] at this
  rw [List.append_assoc]
  exact this
theorem join_e2 (a b : List S35) (hb : b.length ≤ 24) (K : Nat) (R : List S35 × Int) : ∀ (d k i : Nat) (out : List S39),b.length - i = d → K + d < k → out.length ≤ 24 + i →
  (∀ k,K ≤ k → impl_JoinPolygons.l2 k a (out ++ (edgesP b).drop i) ([] : List S39) (out ++ (edgesP b).drop i) ((out ++ (edgesP b).drop i).length : Int) 0 = some R) → impl_JoinPolygons.l1 k a b out (b.length : Int) i = some R
 | d,0,i,out,_,h2,_,_ => absurd h2 (by omega)
 | 0,k + 1,i,out,h1,h2,h3,hR => by
  simp only [impl_JoinPolygons.l1]
  rw [if_neg (by omega)]
  have:=hR k (by omega)
  rw [List.drop_eq_nil_of_le (by rw [edgesP_length];omega),List.append_nil] at this
  exact this
 | d + 1,k + 1,i,out,h1,h2,h3,hR => by
  simp only [impl_JoinPolygons.l1]
  have hi : i < b.length:=by omega
  have hj : (i + 1) % b.length < b.length:=Nat.mod_lt _ (by omega)
  rw [if_pos (by omega),if_pos (by omega),if_pos (by omega),if_neg (by omega),tm1 (by omega) hi,if_pos (by omega),if_pos (by omega),if_pos (by omega),rdN,rdN,w1 (by omega)]
  refine join_e2 a b hb K R d k (i + 1) _ (by omega) (by omega) (by rw [List.length_append];simp;omega) (fun k hk => ?_)
  have:=hR k hk
  rw [edgesP_drop b i hi] at this
  have e : ∀ (x y : List S39) (z : S39),(x ++ [z]) ++ y = x ++ z :: y:=fun x y z => by rw [List.append_assoc];rfl
  rw [e]
  exact this
theorem ep_index (l : List S39) (hl : l.length ≤ 100) (e : S39) : ∀ (d k i : Nat),l.length - i ≤ d → d < k → ∃ r,impl_Point_33.l0 k l (l.length : Int) i e.f1.f0 e.f1.f1 e.f0.f0 e.f0.f1 = some r ∧ decide (r ≥ 0) = revIn (l.drop i) e
 | d,0,i,_,h2 => absurd h2 (by omega)
 | d,k + 1,i,h1,h2 => by
  simp only [impl_Point_33.l0]
  by_cases c : i < l.length
  ·obtain ⟨r,e1,e2⟩:=ep_index l hl e (d - 1) k (i + 1) (by omega) (by omega)
   rw [if_pos (by omega),if_pos (by omega),if_pos (by omega),w1 (by omega),rdEP,getEP l i c,revB_impl]
   have ed : revIn (l.drop i) e = (revB e l[i] || revIn (l.drop (i + 1)) e):=by
    unfold revIn
    rw [List.drop_eq_getElem_cons c,List.any_cons]
   rw [ed]
   cases revB e l[i] with
   | true =>
    rw [if_pos rfl]
    exact ⟨_,rfl,by rw [Bool.true_or,decide_eq_true_eq];omega⟩
   | false =>
    rw [if_neg (by decide)]
    exact ⟨r,e1,by rw [e2,Bool.false_or]⟩
  ·rw [if_neg (by omega),List.drop_eq_nil_of_le (by omega)]
   exact ⟨-1,rfl,rfl⟩
theorem ep_has (l : List S39) (hl : l.length ≤ 100) (e : S39) (k : Nat) (hk : l.length < k) : impl_Point_16.f k l e.f1.f0 e.f1.f1 e.f0.f0 e.f0.f1 = some (revIn l e):=by
 obtain ⟨q,e1,e2⟩:=ep_index l hl e l.length k 0 (by omega) hk;simp only [Int.natCast_zero,List.drop_zero] at e1 e2;unfold impl_Point_16.f impl_Point_33.f;rw [e1,Option.bind_some,e2]
theorem rest_cons (e : S39) (es os : List S39) : restE (e :: es) os = (if revIn os e = true then [] else [e]) ++ restE es os:=by
 unfold restE;rw [List.filter_cons];cases revIn os e <;> rfl
theorem join_f2 (a : List S35) (A B : List S39) (hA : A.length = a.length) (ha : a.length ≤ 24) (hb : B.length ≤ 24) (K : Nat) (hK : 100 ≤ K) (R : List S35 × Int) : ∀ (d k j : Nat) (out : List S39),B.length - j = d → K + d < k → out.length ≤ 24 + j →
  (∀ k,K ≤ k → (if ((out ++ restE (B.drop j) A).length : Int) = ((A ++ B).length : Int) then impl_JoinPolygons.j4 k (out ++ restE (B.drop j) A) true else impl_JoinPolygons.j4 k (out ++ restE (B.drop j) A) (((out ++ restE (B.drop j) A).length : Int) == 0)) = some R) → impl_JoinPolygons.l2 k a (A ++ B) out (A ++ B) ((A ++ B).length : Int) ((A.length + j : Nat) : Int) = some R
 | d,0,i,out,_,h2,_,_ => absurd h2 (by omega)
 | 0,k + 1,j,out,h1,h2,h3,hR => by
  simp only [impl_JoinPolygons.l2]
  rw [if_neg (by rw [List.length_append];omega)]
  have:=hR k (by omega)
  rw [List.drop_eq_nil_of_le (by omega)] at this
  simp only [restE,List.filter_nil,List.append_nil] at this
  exact this
 | d + 1,k + 1,j,out,h1,h2,h3,hR => by
  simp only [impl_JoinPolygons.l2]
  have hj : j < B.length:=by omega
  have hlen : (A ++ B).length = A.length + B.length:=List.length_append
  have hx : (A ++ B).getD (A.length + j) z39 = B[j]:=by
   rw [List.getD_eq_getElem?_getD,List.getElem?_append_right (by omega),Nat.add_sub_cancel_left,List.getElem?_eq_getElem hj]
   rfl
  have ht : (A ++ B).take ((a.length : Int)).toNat = A:=by
   rw [Int.toNat_natCast,← hA,List.take_left']
   rfl
  rw [if_pos (by omega),if_pos (by omega),if_pos (by omega),if_pos (by omega),if_pos (by omega),if_pos (by omega),rdEP,hx,ht,ep_has A (by omega) B[j] k (by omega),Option.bind_some,w1 (by omega)]
  rw [List.drop_eq_getElem_cons hj] at hR
  simp only [rest_cons] at hR
  cases c : revIn A B[j] with
  | true =>
   rw [if_pos rfl]
   simp only [c,if_true,List.nil_append] at hR
   exact join_f2 a A B hA ha hb K hK R d k (j + 1) out (by omega) (by omega) (by omega) hR
  | false =>
   rw [if_neg (by decide),if_pos (by omega)]
   simp only [c,Bool.false_eq_true,if_false,← List.append_assoc] at hR
   exact join_f2 a A B hA ha hb K hK R d k (j + 1) _ (by omega) (by omega) (by rw [List.length_append];simp;omega) hR
theorem join_f1 (a : List S35) (A B : List S39) (hA : A.length = a.length) (ha : a.length ≤ 24) (hb : B.length ≤ 24) (K : Nat) (hK : 100 ≤ K) (R : List S35 × Int) : ∀ (d k j : Nat) (out : List S39),A.length - j = d → K + 30 + d < k → out.length ≤ j → j ≤ A.length →
  (∀ k,K ≤ k → (if ((out ++ (restE (A.drop j) B ++ restE B A)).length : Int) = ((A ++ B).length : Int) then impl_JoinPolygons.j4 k (out ++ (restE (A.drop j) B ++ restE B A)) true else impl_JoinPolygons.j4 k (out ++ (restE (A.drop j) B ++ restE B A)) (((out ++ (restE (A.drop j) B ++ restE B A)).length : Int) == 0)) = some R) → impl_JoinPolygons.l2 k a (A ++ B) out (A ++ B) ((A ++ B).length : Int) (j : Int) = some R
 | d,0,i,out,_,h2,_,_,_ => absurd h2 (by omega)
 | 0,k + 1,j,out,h1,h2,h3,h4,hR => by
  have hj : j = A.length:=by omega
  subst hj
  refine join_f2 a A B hA ha hb K hK R B.length (k + 1) 0 out (by omega) (by omega) (by omega) (fun k hk => ?_)
  have:=hR k hk
  rw [List.drop_length] at this
  exact this
 | d + 1,k + 1,j,out,h1,h2,h3,h4,hR => by
  simp only [impl_JoinPolygons.l2]
  have hj : j < A.length:=by omega
  have hlen : (A ++ B).length = A.length + B.length:=List.length_append
  have hx : (A ++ B).getD j z39 = A[j]:=by
   rw [List.getD_eq_getElem?_getD,List.getElem?_append_left hj,List.getElem?_eq_getElem hj]
   rfl
  have ht : (A ++ B).drop ((a.length : Int)).toNat = B:=by
   rw [Int.toNat_natCast,← hA,List.drop_left']
   rfl
  rw [if_pos (by omega),if_pos (by omega),if_pos (by omega),if_pos (by omega),if_pos (by omega),if_neg (by omega),rdEP,hx,ht,ep_has B (by omega) A[j] k (by omega),Option.bind_some,w1 (by omega)]
  rw [List.drop_eq_getElem_cons hj] at hR
  simp only [rest_cons] at hR
  cases c : revIn B A[j] with
  | true =>
   rw [if_pos rfl]
   simp only [c,if_true,List.nil_append] at hR
   exact join_f1 a A B hA ha hb K hK R d k (j + 1) out (by omega) (by omega) (by omega) (by omega) hR
  | false =>
   rw [if_neg (by decide),if_pos (by omega)]
   simp only [c,Bool.false_eq_true,if_false] at hR
   refine join_f1 a A B hA ha hb K hK R d k (j + 1) _ (by omega) (by omega) (by rw [List.length_append];simp;omega) (by omega) (fun k hk => ?_)
   have:=hR k hk
   rw [List.append_assoc [_],← List.append_assoc out] at this
   exact this
/-- The reference's rest of a polygon. -/
theorem rest_in (a b : List S35) (hb : b.length ≤ 24) (F T : List S35) (hF : F.length ≤ 1000) (hT : T.length ≤ 1000) (i : Nat) (e : S39) (u : Bool) (K : Nat) (R : List S35 × List S35)
  (hR : ∀ k,K ≤ k → spec_l04Rest.l0 k a b (if u = true then F else F ++ [e.f0]) (if u = true then T else T ++ [e.f1]) (wrap64 ((i : Int) + 1)) = some R) : ∀ (d k j : Nat) (c : Bool),b.length - j = d → K + d < k → (c || revIn ((edgesP b).drop j) e) = u → spec_l04Rest.l1 k a b F T i c j e.f0.f0 e.f0.f1 e.f1.f0 e.f1.f1 = some R
 | d,0,i,c,_,h2,_ => absurd h2 (by omega)
 | 0,k + 1,j,c,h1,h2,hu => by
  simp only [spec_l04Rest.l1]
  rw [if_neg (by omega)]
  rw [List.drop_eq_nil_of_le (by rw [edgesP_length];omega)] at hu
  have hu : c = u:=by
   rw [← hu]
   simp [revIn]
  subst hu
  have:=hR k (by omega)
  cases c with
  | true =>
   rw [if_pos rfl]
   exact this
  | false =>
   rw [if_neg (by decide),if_pos (by omega),if_pos (by omega)]
   exact this
 | d + 1,k + 1,j,c,h1,h2,hu => by
  simp only [spec_l04Rest.l1]
  have hj : j < b.length:=by omega
  have hm : (j + 1) % b.length < b.length:=Nat.mod_lt _ (by omega)
  rw [if_pos (by omega),tm1 (by omega) hj,w1 (by omega)]
  rw [edgesP_drop b j hj] at hu
  have eu : revIn ((⟨b.getD j z35,b.getD ((j + 1) % b.length) z35⟩ : S39) :: (edgesP b).drop (j + 1)) e = (revB e ⟨b.getD j z35,b.getD ((j + 1) % b.length) z35⟩ || revIn ((edgesP b).drop (j + 1)) e):=rfl
  rw [eu] at hu
  cases c with
  | true =>
   rw [if_pos rfl]
   exact rest_in a b hb F T hF hT i e u K R hR d k (j + 1) true (by omega) (by omega) (by rw [← hu];rfl)
  | false =>
   rw [if_neg (by decide),if_pos (by omega),rdN]
   have hv:=revB_spec e (⟨b.getD j z35,b.getD ((j + 1) % b.length) z35⟩ : S39)
   simp only at hv
   cases c2 : ((b.getD j z35).f0 == e.f1.f0 && ((b.getD j z35).f1 == e.f1.f1)) with
   | true =>
    rw [if_pos rfl,if_neg (by omega),if_pos (by omega),if_pos (by omega),rdN]
    rw [c2,Bool.true_and] at hv
    rw [hv]
    exact rest_in a b hb F T hF hT i e u K R hR d k (j + 1) _ (by omega) (by omega) (by rw [← hu,Bool.false_or])
   | false =>
    rw [if_neg (by decide)]
    rw [c2,Bool.false_and] at hv
    exact rest_in a b hb F T hF hT i e u K R hR d k (j + 1) false (by omega) (by omega) (by rw [← hu,← hv];rfl)
theorem rest_out (a b : List S35) (ha : a.length ≤ 24) (hb : b.length ≤ 24) : ∀ (d k i : Nat) (F T : List S35),a.length - i = d → 40 * d < k → F.length ≤ i → T.length ≤ i →
  spec_l04Rest.l0 k a b F T i = some (F ++ (restE ((edgesP a).drop i) (edgesP b)).map (·.f0),T ++ (restE ((edgesP a).drop i) (edgesP b)).map (·.f1))
 | d,0,i,F,T,_,h2,_,_ => absurd h2 (by omega)
 | 0,k + 1,i,F,T,h1,h2,h3,h4 => by
  simp only [spec_l04Rest.l0]
  rw [if_neg (by omega),List.drop_eq_nil_of_le (by rw [edgesP_length];omega)]
  simp [restE]
 | d + 1,k + 1,i,F,T,h1,h2,h3,h4 => by
  simp only [spec_l04Rest.l0]
  have hi : i < a.length:=by omega
  have hm : (i + 1) % a.length < a.length:=Nat.mod_lt _ (by omega)
  rw [if_pos (by omega),if_pos (by omega),if_neg (by omega),tm1 (by omega) hi,if_pos (by omega),if_pos (by omega),rdN,rdN,edgesP_drop a i hi,rest_cons]
  refine rest_in a b hb F T (by omega) (by omega) i ⟨a.getD i z35,a.getD ((i + 1) % a.length) z35⟩ (revIn (edgesP b) ⟨a.getD i z35,a.getD ((i + 1) % a.length) z35⟩) (40 * d + 1) _ (fun k hk => ?_) b.length k 0 false (by omega) (by omega) (by rw [List.drop_zero,Bool.false_or])
  rw [w1 (by omega)]
  cases revIn (edgesP b) (⟨a.getD i z35,a.getD ((i + 1) % a.length) z35⟩ : S39) with
  | true =>
   rw [if_pos rfl,if_pos rfl,if_pos rfl,rest_out a b ha hb d k (i + 1) F T (by omega) (by omega) (by omega) (by omega)]
   rfl
  | false =>
   rw [if_neg (by decide),if_neg (by decide),if_neg (by decide),rest_out a b ha hb d k (i + 1) _ _ (by omega) (by omega) (by rw [List.length_append];simp;omega) (by rw [List.length_append];simp;omega)]
   simp only [List.map_append,List.map_cons,List.map_nil,List.append_assoc]
theorem rest_eq (a b : List S35) (ha : a.length ≤ 24) (hb : b.length ≤ 24) (k : Nat) (hk : 1000 ≤ k) : spec_l04Rest.f k a b = some ((restE (edgesP a) (edgesP b)).map (·.f0),(restE (edgesP a) (edgesP b)).map (·.f1)):=by
 have:=rest_out a b ha hb a.length k 0 [] [] (by omega) (by omega) (Nat.le_refl _) (Nat.le_refl _);simp only [Int.natCast_zero,List.drop_zero,List.nil_append] at this;unfold spec_l04Rest.f;exact this
theorem rest_length (es os : List S39) : (restE es os).length ≤ es.length:=by
 unfold restE;exact List.length_filter_le _ _
theorem rest_full (es os : List S39) : (restE es os).length = es.length ↔ ∀ e ∈ es,∀ s ∈ os,revB e s = false:=by
 unfold restE;rw [List.length_filter_eq_length_iff];constructor;(·intro h e he s hs;have:=h e he;unfold revIn at this;simp only [Bool.not_eq_true',List.any_eq_false,Bool.not_eq_true] at this;exact this s hs);(·intro h e he;unfold revIn;simp only [Bool.not_eq_true',List.any_eq_false,Bool.not_eq_true];exact h e he)
/-- Either nothing of both or something of one is taken away. -/
theorem rest_both (A B : List S39) : (restE A B ++ restE B A).length = (A ++ B).length ↔ (restE A B).length = A.length:=by
 have h1:=rest_length A B;have h2:=rest_length B A;rw [List.length_append,List.length_append];constructor;(·intro h;omega);(·intro h;(have h3 : (restE B A).length = B.length:=by rw [rest_full] at h ⊢;intro e he s hs;rw [revB_comm];exact h s hs e he);omega)
def sameP (L : List S39) (i j : Nat) : Bool:=(L.getD i z39).f0.f0 == (L.getD j z39).f0.f0 && ((L.getD i z39).f0.f1 == (L.getD j z39).f0.f1)
def hitIn (L : List S39) (i : Nat) : Nat → Nat → Bool
 | 0,_ => false
 | d + 1,j => sameP L i j || hitIn L i d (j + 1)
def hitAll (L : List S39) : Nat → Nat → Bool
 | 0,_ => false
 | d + 1,i => hitIn L i i 0 || hitAll L d (i + 1)
theorem getF0 (L : List S39) (j : Nat) : (L.map (·.f0)).getD j z35 = (L.getD j z39).f0:=by
 rw [List.getD_eq_getElem?_getD,List.getD_eq_getElem?_getD,List.getElem?_map];cases L[j]? <;> rfl
theorem getF1 (L : List S39) (j : Nat) : (L.map (·.f1)).getD j z35 = (L.getD j z39).f1:=by
 rw [List.getD_eq_getElem?_getD,List.getD_eq_getElem?_getD,List.getElem?_map];cases L[j]? <;> rfl
theorem hitIn_false (L : List S39) (i : Nat) : ∀ d j,hitIn L i d j = false → ∀ t,j ≤ t → t < j + d → sameP L i t = false
 | 0,j,_,t,h1,h2 => absurd h2 (by omega)
 | d + 1,j,h,t,h1,h2 => by
  simp only [hitIn,Bool.or_eq_false_iff] at h
  by_cases e : t = j
  ·rw [e]
   exact h.1
  ·exact hitIn_false L i d (j + 1) h.2 t (by omega) (by omega)
theorem hitAll_false (L : List S39) : ∀ d i,hitAll L d i = false → ∀ s,i ≤ s → s < i + d → ∀ t,t < s → sameP L s t = false
 | 0,i,_,s,h1,h2,_,_ => absurd h2 (by omega)
 | d + 1,i,h,s,h1,h2,t,ht => by
  simp only [hitAll,Bool.or_eq_false_iff] at h
  by_cases e : s = i
  ·subst e
   exact hitIn_false L s s 0 h.1 t (by omega) (by omega)
  ·exact hitAll_false L d (i + 1) h.2 s (by omega) (by omega) t ht
theorem dup_in (L : List S39) (hL : L.length ≤ 48) (i : Nat) (hi : i < L.length) (K : Nat) (R : List S35 × Bool) (Q : List S35 × Int) : ∀ (d k j : Nat),i - j = d → j ≤ i → K + d < k →
  (hitIn L i d j = false → ∀ k,K ≤ k → spec_l04Join.l0 k (L.map (·.f0)) (L.map (·.f1)) (wrap64 ((i : Int) + 1)) = some R ∧ impl_JoinPolygons.l3 k L (L.length : Int) (wrap64 ((i : Int) + 1)) = some Q) →
  (hitIn L i d j = true → R = ([],false) ∧ Q = ([],6)) → spec_l04Join.l1 k (L.map (·.f0)) (L.map (·.f1)) i j = some R ∧ impl_JoinPolygons.l4 k L i (L.length : Int) i i j = some Q
 | d,0,j,_,_,h2,_,_ => absurd h2 (by omega)
 | 0,k + 1,j,h1,hj,h2,hR,_ => by
  simp only [spec_l04Join.l1,impl_JoinPolygons.l4]
  rw [if_neg (by omega),if_neg (by omega)]
  exact hR rfl k (by omega)
 | d + 1,k + 1,j,h1,hj,h2,hR,hH => by
  have es : ((L.getD i z39).f0.f0 == (L.getD j z39).f0.f0 && ((L.getD i z39).f0.f1 == (L.getD j z39).f0.f1)) = sameP L i j:=rfl
  simp only [hitIn] at hR hH
  cases c : sameP L i j with
  | true =>
   rw [c] at hH es
   obtain ⟨rfl,rfl⟩:=hH rfl
   constructor
   ·simp only [spec_l04Join.l1,List.length_map]
    rw [if_pos (by omega),if_pos (by omega),if_pos (by omega),if_pos (by omega),if_pos (by omega),rdN,rdN,getF0,getF0,es,if_pos rfl]
   ·simp only [impl_JoinPolygons.l4]
    rw [if_pos (by omega),if_pos (by omega),if_pos (by omega),if_pos (by omega),if_pos (by omega),rdEP,rdEP,es,if_pos rfl]
  | false =>
   rw [c] at hR hH es
   have ih:=dup_in L hL i hi K R Q d k (j + 1) (by omega) (by omega) (by omega) hR hH
   constructor
   ·simp only [spec_l04Join.l1,List.length_map]
    rw [if_pos (by omega),if_pos (by omega),if_pos (by omega),if_pos (by omega),if_pos (by omega),rdN,rdN,getF0,getF0,es,if_neg (by decide),w1 (by omega)]
    exact ih.1
   ·simp only [impl_JoinPolygons.l4]
    rw [if_pos (by omega),if_pos (by omega),if_pos (by omega),if_pos (by omega),if_pos (by omega),rdEP,rdEP,es,if_neg (by decide),w1 (by omega)]
    exact ih.2
theorem dup_out (L : List S39) (hL : L.length ≤ 48) (h0 : 0 < L.length) (K : Nat) (R : List S35 × Bool) (Q : List S35 × Int) : ∀ (d k i : Nat),L.length - i = d → i ≤ L.length → K + 60 * d + 2 < k →
  (hitAll L d i = false → ∀ k,K ≤ k → spec_l04Join.l2 k (L.map (·.f0)) (L.map (·.f1)) [(L.getD 0 z39).f0] (L.getD 0 z39).f1.f0 (L.getD 0 z39).f1.f1 = some R ∧ impl_JoinPolygons.l5 k L ([] : List S35) 0 = some Q) →
  (hitAll L d i = true → R = ([],false) ∧ Q = ([],6)) → spec_l04Join.l0 k (L.map (·.f0)) (L.map (·.f1)) i = some R ∧ impl_JoinPolygons.l3 k L (L.length : Int) i = some Q
 | d,0,i,_,_,h2,_,_ => absurd h2 (by omega)
 | 0,k + 1,i,h1,hi,h2,hR,_ => by
  have z0:=rdN (L.map (·.f0)) 0
  have z1:=rdN (L.map (·.f1)) 0
  simp only [Int.natCast_zero] at z0 z1
  have:=hR rfl k (by omega)
  constructor
  ·simp only [spec_l04Join.l0,List.length_map]
   rw [if_neg (by omega),if_pos (by omega),if_pos (by omega),z0,z1,getF0,getF1]
   exact this.1
  ·simp only [impl_JoinPolygons.l3]
   rw [if_neg (by omega)]
   exact this.2
 | d + 1,k + 1,i,h1,hi,h2,hR,hH => by
  simp only [spec_l04Join.l0,impl_JoinPolygons.l3,List.length_map]
  rw [if_pos (by omega),if_pos (by omega)]
  simp only [hitAll] at hR hH
  have:=dup_in L hL i (by omega) (K + 60 * d + 3) R Q i k 0 (by omega) (by omega) (by omega) (fun hf k hk => by
   rw [w1 (by omega)]
   rw [hf] at hR hH
   exact dup_out L hL h0 K R Q d k (i + 1) (by omega) (by omega) (by omega) hR hH) (fun ht => hH (by rw [ht];rfl))
  simp only [Int.natCast_zero] at this
  exact this
def atP (L : List S39) (q0 q1 : Int) (j : Nat) : Bool:=(L.getD j z39).f0.f0 == q0 && ((L.getD j z39).f0.f1 == q1)
theorem ix_none (L : List S39) (hL : L.length ≤ 48) (q0 q1 : Int) (hn : ∀ j,j < L.length → atP L q0 q1 j = false) : ∀ (d k j : Nat),L.length - j = d → d < k → impl_Point_17.ix k L q0 q1 j = some (-1)
 | d,0,j,_,h2 => absurd h2 (by omega)
 | 0,k + 1,j,h1,h2 => by
  simp only [impl_Point_17.ix]
  rw [if_neg (by omega)]
 | d + 1,k + 1,j,h1,h2 => by
  simp only [impl_Point_17.ix]
  have e : ((L.getD j z39).f0.f0 == q0 && ((L.getD j z39).f0.f1 == q1)) = false:=hn j (by omega)
  rw [if_pos (by omega),if_pos (by omega),rdEP,e,if_neg (by decide),w1 (by omega)]
  exact ix_none L hL q0 q1 hn d k (j + 1) (by omega) (by omega)
theorem ix_hit (L : List S39) (hL : L.length ≤ 48) (q0 q1 : Int) (m : Nat) (hm : m < L.length) (h1 : atP L q0 q1 m = true) (hu : ∀ j,j < L.length → atP L q0 q1 j = true → j = m) : ∀ (d k j : Nat),m - j = d → j ≤ m → d < k → impl_Point_17.ix k L q0 q1 j = some (m : Int)
 | d,0,j,_,_,h2 => absurd h2 (by omega)
 | 0,k + 1,j,hj,hj2,h2 => by
  have : j = m:=by omega
  subst this
  have e : ((L.getD j z39).f0.f0 == q0 && ((L.getD j z39).f0.f1 == q1)) = true:=h1
  simp only [impl_Point_17.ix]
  rw [if_pos (by omega),if_pos (by omega),rdEP,e,if_pos rfl]
 | d + 1,k + 1,j,hj,hj2,h2 => by
  have e : ((L.getD j z39).f0.f0 == q0 && ((L.getD j z39).f0.f1 == q1)) = false:=by
   cases c : atP L q0 q1 j with
   | true => exact absurd (hu j (by omega) c) (by omega)
   | false => exact c
  simp only [impl_Point_17.ix]
  rw [if_pos (by omega),if_pos (by omega),rdEP,e,if_neg (by decide),w1 (by omega)]
  exact ix_hit L hL q0 q1 m hm h1 hu d k (j + 1) (by omega) (by omega) (by omega)
theorem l3_none (L : List S39) (hL : L.length ≤ 48) (q0 q1 : Int) (o : List S35) (hn : ∀ j,j < L.length → atP L q0 q1 j = false) : ∀ (d k j : Nat),L.length - j = d → d < k → spec_l04Join.l3 k (L.map (·.f0)) (L.map (·.f1)) o (-1) j q0 q1 = some ([],false)
 | d,0,j,_,h2 => absurd h2 (by omega)
 | 0,k + 1,j,h1,h2 => by
  simp only [spec_l04Join.l3,List.length_map]
  rw [if_neg (by omega),if_pos (by omega)]
 | d + 1,k + 1,j,h1,h2 => by
  simp only [spec_l04Join.l3,List.length_map]
  have e : ((L.getD j z39).f0.f0 == q0 && ((L.getD j z39).f0.f1 == q1)) = false:=hn j (by omega)
  rw [if_pos (by omega),if_pos (by omega),rdN,getF0,e,if_neg (by decide),w1 (by omega)]
  exact l3_none L hL q0 q1 o hn d k (j + 1) (by omega) (by omega)
theorem l3_hit (L : List S39) (hL : L.length ≤ 48) (q0 q1 : Int) (o : List S35) (ho : o.length ≤ 1000) (m : Nat) (hm : m < L.length) (h1 : atP L q0 q1 m = true) (hu : ∀ j,j < L.length → atP L q0 q1 j = true → j = m) (K : Nat) (R : List S35 × Bool)
  (hR : ∀ k,K ≤ k → spec_l04Join.l2 k (L.map (·.f0)) (L.map (·.f1)) (o ++ [(⟨q0,q1⟩ : S35)]) (L.getD m z39).f1.f0 (L.getD m z39).f1.f1 = some R) : ∀ (d k j : Nat) (x : Int),L.length - j = d → K + d < k → (j ≤ m ∨ x = (m : Int)) → spec_l04Join.l3 k (L.map (·.f0)) (L.map (·.f1)) o x j q0 q1 = some R
 | d,0,j,x,_,h2,_ => absurd h2 (by omega)
 | 0,k + 1,j,x,hj,h2,hx => by
  have hx : x = (m : Int):=by omega
  subst hx
  simp only [spec_l04Join.l3,List.length_map]
  rw [if_neg (by omega),if_neg (by omega),if_pos (by omega),if_pos (by omega),if_pos (by omega),rdN,getF1]
  exact hR k (by omega)
 | d + 1,k + 1,j,x,hj,h2,hx => by
  simp only [spec_l04Join.l3,List.length_map]
  rw [if_pos (by omega),if_pos (by omega),rdN,getF0,w1 (by omega)]
  have es : ((L.getD j z39).f0.f0 == q0 && ((L.getD j z39).f0.f1 == q1)) = atP L q0 q1 j:=rfl
  rw [es]
  cases c : atP L q0 q1 j with
  | true =>
   have:=hu j (by omega) c
   rw [if_pos rfl]
   exact l3_hit L hL q0 q1 o ho m hm h1 hu K R hR d k (j + 1) (j : Int) (by omega) (by omega) (by omega)
  | false =>
   have hne : j ≠ m:=by
    rintro rfl
    rw [h1] at c
    cases c
   rw [if_neg (by decide)]
   exact l3_hit L hL q0 q1 o ho m hm h1 hu K R hR d k (j + 1) x (by omega) (by omega) (by omega)
def toI (R : List S35 × Bool) : List S35 × Int:=if R.2 = true then (R.1,0) else ([],6)
theorem chase (L : List S39) (hL : L.length ≤ 48) (h0 : 0 < L.length) (hd : hitAll L L.length 0 = false) : ∀ (d n : Nat) (out : List S35),n < L.length → out.length ≤ L.length → L.length + 1 - out.length = d →
  ∃ R : List S35 × Bool,R.1.length ≤ 1000 ∧ ∀ k,1200 + 100 * d ≤ k → spec_l04Join.l2 k (L.map (·.f0)) (L.map (·.f1)) (out ++ [(L.getD n z39).f0]) (L.getD n z39).f1.f0 (L.getD n z39).f1.f1 = some R ∧ impl_JoinPolygons.l5 k L out n = some (toI R)
 | 0,n,out,_,h2,h3 => absurd h3 (by omega)
 | d + 1,n,out,hn,h2,h3 => by
  have z0:=rdN (L.map (·.f0)) 0
  have z1:=rdEP L 0
  simp only [Int.natCast_zero] at z0 z1
  obtain ⟨o,ho⟩ : ∃ o,o = out ++ [(L.getD n z39).f0]:=⟨_,rfl⟩
  have hol : o.length = out.length + 1:=by rw [ho,List.length_append];rfl
  obtain ⟨q0,hq0⟩ : ∃ q,q = (L.getD n z39).f1.f0:=⟨_,rfl⟩
  obtain ⟨q1,hq1⟩ : ∃ q,q = (L.getD n z39).f1.f1:=⟨_,rfl⟩
  have eo : out ++ [(⟨(L.getD n z39).f0.f0,(L.getD n z39).f0.f1⟩ : S35)] = o:=by rw [ho]
  -- the shapes of both rounds
  have hs : ∀ k,spec_l04Join.l2 (k + 2) (L.map (·.f0)) (L.map (·.f1)) o q0 q1 = (if (!(q0 == (L.getD 0 z39).f0.f0) || (!(q1 == (L.getD 0 z39).f0.f1))) = true then (if decide (o.length ≤ L.length) = true then spec_l04Join.l3 k (L.map (·.f0)) (L.map (·.f1)) o (-1) 0 q0 q1 else some ([],false)) else (if o.length = L.length then ((spec_l03Ok.f k o).bind fun t => if t = true then some (o,true) else some ([],false)) else some ([],false))):=fun k => by
   simp only [spec_l04Join.l2,spec_l04Join.j4,List.length_map]
   rw [if_pos (by omega),z0,getF0]
   by_cases c : (!(q0 == (L.getD 0 z39).f0.f0) || (!(q1 == (L.getD 0 z39).f0.f1))) = true
   ·rw [if_pos c,if_pos c]
    by_cases c2 : o.length ≤ L.length
    ·rw [if_pos (by rw [decide_eq_true_eq];omega),if_pos (by rw [decide_eq_true_eq];omega)]
    ·rw [if_neg (by rw [decide_eq_true_eq];omega),if_neg (by omega),if_neg (by rw [decide_eq_true_eq];omega)]
   ·rw [if_neg c,if_neg c,if_neg (by decide)]
    by_cases c2 : o.length = L.length
    ·rw [if_pos (by omega),if_pos c2]
    ·rw [if_neg (by omega),if_neg c2]
  have hi : ∀ k,impl_JoinPolygons.l5 (k + 1) L out n = (if ((q0 == (L.getD 0 z39).f0.f0) && (q1 == (L.getD 0 z39).f0.f1)) = true then (if o.length = L.length then ((impl_ValidPolygon.f k o).bind fun t => if t = true then some (o,0) else some ([],6)) else some ([],6)) else ((impl_Point_17.ix k L q0 q1 0).bind fun t => if t < 0 then some ([],6) else (if (o.length : Int) > (L.length : Int) then some ([],6) else impl_JoinPolygons.l5 k L o t))):=fun k => by
   simp only [impl_JoinPolygons.l5,impl_Point_17.f]
   rw [if_pos (by omega),if_pos (by omega),if_pos (by omega),rdEP,Option.bind_some,if_pos (by omega),z1,eo,← hq0,← hq1]
   by_cases c : ((q0 == (L.getD 0 z39).f0.f0) && (q1 == (L.getD 0 z39).f0.f1)) = true
   ·rw [if_pos c,if_pos c]
    by_cases c2 : o.length = L.length
    ·rw [if_pos (by omega),if_pos c2]
    ·rw [if_neg (by omega),if_neg c2]
   ·rw [if_neg c,if_neg c]
  rw [← hq0,← hq1,← ho]
  have cc : (!(q0 == (L.getD 0 z39).f0.f0) || (!(q1 == (L.getD 0 z39).f0.f1))) = !((q0 == (L.getD 0 z39).f0.f0) && (q1 == (L.getD 0 z39).f0.f1)):=by rw [Bool.not_and]
  rw [cc] at hs
  cases c : ((q0 == (L.getD 0 z39).f0.f0) && (q1 == (L.getD 0 z39).f0.f1)) with
  | true =>
   simp only [c,Bool.not_true,Bool.false_eq_true,if_false,if_true] at hs hi
   obtain ⟨b,g1,g2,_⟩:=spec_valid_eq o (by omega)
   by_cases c2 : o.length = L.length
   ·simp only [c2,if_true] at hs hi
    refine ⟨if b = true then (o,true) else ([],false),by cases b <;> simp;omega,fun k hk => ?_⟩
    obtain ⟨k,rfl⟩ : ∃ q,k = q + 2:=⟨k - 2,by omega⟩
    rw [hs k,hi (k + 1),g1 k (by omega),g2 (k + 1) (by omega)]
    cases b <;> exact ⟨rfl,rfl⟩
   ·simp only [c2,if_false] at hs hi
    refine ⟨([],false),by simp,fun k hk => ?_⟩
    obtain ⟨k,rfl⟩ : ∃ q,k = q + 2:=⟨k - 2,by omega⟩
    rw [hs k,hi (k + 1)]
    exact ⟨rfl,rfl⟩
  | false =>
   simp only [c,Bool.not_false,Bool.false_eq_true,if_false,if_true] at hs hi
   by_cases hx : ∃ m,m < L.length ∧ atP L q0 q1 m = true
   ·obtain ⟨m,hm,hm1⟩:=hx
    have hu : ∀ j,j < L.length → atP L q0 q1 j = true → j = m:=fun j hj hj1 => by
     unfold atP at hm1 hj1
     simp only [Bool.and_eq_true,beq_iff_eq] at hm1 hj1
     rcases Nat.lt_trichotomy j m with e | e | e
     ·have:=hitAll_false L L.length 0 hd m (by omega) (by omega) j e
      unfold sameP at this
      rw [hm1.1,hm1.2,hj1.1,hj1.2] at this
      simp at this
     ·exact e
     ·have:=hitAll_false L L.length 0 hd j (by omega) (by omega) m e
      unfold sameP at this
      rw [hm1.1,hm1.2,hj1.1,hj1.2] at this
      simp at this
    have ei : ∀ k,1000 ≤ k → impl_Point_17.ix k L q0 q1 0 = some (m : Int):=fun k hk => by
     have:=ix_hit L hL q0 q1 m hm hm1 hu m k 0 (by omega) (by omega) (by omega)
     simp only [Int.natCast_zero] at this
     exact this
    by_cases c2 : o.length ≤ L.length
    ·obtain ⟨R,r1,r2⟩:=chase L hL h0 hd d m o hm c2 (by omega)
     have em : (L.getD m z39).f0 = (⟨q0,q1⟩ : S35):=by
      unfold atP at hm1
      simp only [Bool.and_eq_true,beq_iff_eq] at hm1
      rw [← hm1.1,← hm1.2]
     refine ⟨R,r1,fun k hk => ?_⟩
     obtain ⟨k,rfl⟩ : ∃ q,k = q + 2:=⟨k - 2,by omega⟩
     rw [hs k,hi (k + 1),if_pos (by rw [decide_eq_true_eq];exact c2),ei (k + 1) (by omega),Option.bind_some,if_neg (by omega),if_neg (by omega)]
     have:=l3_hit L hL q0 q1 o (by omega) m hm hm1 hu (1200 + 100 * d) R (fun k hk => by
      rw [← em]
      exact (r2 k hk).1) L.length k 0 (-1) (by omega) (by omega) (by omega)
     simp only [Int.natCast_zero] at this
     exact ⟨this,(r2 (k + 1) (by omega)).2⟩
    ·refine ⟨([],false),by simp,fun k hk => ?_⟩
     obtain ⟨k,rfl⟩ : ∃ q,k = q + 2:=⟨k - 2,by omega⟩
     rw [hs k,hi (k + 1),if_neg (by rw [decide_eq_true_eq];exact c2),ei (k + 1) (by omega),Option.bind_some,if_neg (by omega),if_pos (by omega)]
     exact ⟨rfl,rfl⟩
   ·have hno : ∀ j,j < L.length → atP L q0 q1 j = false:=fun j hj => by
     cases e : atP L q0 q1 j with
     | true => exact absurd ⟨j,hj,e⟩ hx
     | false => rfl
    refine ⟨([],false),by simp,fun k hk => ?_⟩
    obtain ⟨k,rfl⟩ : ∃ q,k = q + 2:=⟨k - 2,by omega⟩
    have e1:=ix_none L hL q0 q1 hno L.length (k + 1) 0 (by omega) (by omega)
    have e2:=l3_none L hL q0 q1 o hno L.length k 0 (by omega) (by omega)
    simp only [Int.natCast_zero] at e1 e2
    constructor
    ·rw [hs k,e2]
     split <;> rfl
    ·rw [hi (k + 1),e1,Option.bind_some,if_pos (by omega)]
     rfl
theorem join_eq {a b : List S35} (ha : Valid a) (hb : Valid b) : ∃ R : List S35 × Bool,R.1.length ≤ 1000 ∧ ∀ k,20000 ≤ k → spec_l04Join.f k a b = some R ∧ impl_JoinPolygons.j0 k a b false = some (toI R):=by
 have la:=ha.2.1
 have lb:=hb.2.1
 obtain ⟨r,hr⟩:=apart_eq ha hb
 cases r with
 | false =>
  refine ⟨([],false),by simp,fun k hk => ?_⟩
  obtain ⟨k,rfl⟩ : ∃ q,k = q + 1:=⟨k - 1,by omega⟩
  constructor
  ·unfold spec_l04Join.f
   rw [(hr (k + 1) (by omega)).1]
   rfl
  ·simp only [impl_JoinPolygons.j0]
   rw [if_neg (by decide),(hr k (by omega)).2]
   rfl
 | true =>
  obtain ⟨A,hA⟩ : ∃ A,A = edgesP a:=⟨_,rfl⟩
  obtain ⟨B,hB⟩ : ∃ B,B = edgesP b:=⟨_,rfl⟩
  have lA : A.length = a.length:=by rw [hA,edgesP_length]
  have lB : B.length = b.length:=by rw [hB,edgesP_length]
  have n1:=rest_length A B
  have n2:=rest_length B A
  obtain ⟨L,hL⟩ : ∃ L,L = restE A B ++ restE B A:=⟨_,rfl⟩
  have lL : L.length = (restE A B).length + (restE B A).length:=by rw [hL,List.length_append]
  have hboth:=rest_both A B
  rw [← hL] at hboth
  have sp : ∀ k,2000 ≤ k → spec_l04Join.f (k + 1) a b = (if (restE A B).length = A.length then some ([],false) else if L.length = 0 then some ([],false) else spec_l04Join.l0 k (L.map (·.f0)) (L.map (·.f1)) 0):=fun k hk => by
   have e1:=rest_eq a b la lb (k + 1) (by omega)
   have e2:=rest_eq b a lb la (k + 1) (by omega)
   rw [← hA,← hB] at e1 e2
   unfold spec_l04Join.f
   rw [(hr (k + 1) (by omega)).1,Option.bind_some,if_pos rfl,e1,Option.bind_some,e2,Option.bind_some]
   simp only [spec_l04Join.j0,List.length_map]
   by_cases c : (restE A B).length = A.length
   ·rw [if_pos (by omega),if_pos c,if_pos trivial]
   ·rw [if_neg (by omega),if_neg c]
    have ew : wrap64 (((restE A B).length : Int) + ((restE B A).length : Int)) = (L.length : Int):=by
     rw [w64 (by omega) (by omega)]
     omega
    rw [ew]
    by_cases c2 : L.length = 0
    ·rw [if_pos c2,if_pos (by rw [beq_iff_eq];omega)]
    ·rw [if_neg c2,if_neg (by rw [beq_iff_eq];omega),if_pos (by omega),if_pos (by omega),← List.map_append,← List.map_append,← hL]
  have im : ∀ (R : List S35 × Int) (K : Nat),2000 ≤ K → (∀ k,K ≤ k → (if (restE A B).length = A.length then (some ([],6) : Option (List S35 × Int)) else if L.length = 0 then some ([],6) else impl_JoinPolygons.l3 k L (L.length : Int) 0) = some R) → ∀ k,K + 200 ≤ k → impl_JoinPolygons.j0 k a b false = some R:=fun R K hK hR k hk => by
   obtain ⟨k,rfl⟩ : ∃ q,k = q + 1:=⟨k - 1,by omega⟩
   simp only [impl_JoinPolygons.j0]
   rw [if_neg (by decide),(hr k (by omega)).2,Option.bind_some,if_pos rfl]
   refine join_e1 a b la (K + 120) R a.length k 0 [] (by omega) (by omega) (Nat.le_refl _) (fun k hk => ?_)
   rw [List.nil_append,List.drop_zero,← hA]
   refine join_e2 a b lb (K + 90) R b.length k 0 A (by omega) (by omega) (by omega) (fun k hk => ?_)
   rw [List.drop_zero,← hB]
   refine join_f1 a A B lA la (by omega) (K + 1) (by omega) R A.length k 0 [] (by omega) (by omega) (Nat.le_refl _) (Nat.zero_le _) (fun k hk => ?_)
   rw [List.nil_append,List.drop_zero,← hL]
   obtain ⟨k,rfl⟩ : ∃ q,k = q + 1:=⟨k - 1,by omega⟩
   have:=hR k (by omega)
   simp only [impl_JoinPolygons.j4]
   by_cases c : (restE A B).length = A.length
   ·rw [if_pos c] at this
    rw [if_pos (by have:=hboth.2 c;omega),if_pos trivial]
    exact this
   ·rw [if_neg c] at this
    rw [if_neg (by intro e;exact c (hboth.1 (by omega)))]
    by_cases c2 : L.length = 0
    ·rw [if_pos c2] at this
     rw [if_pos (by rw [beq_iff_eq];omega)]
     exact this
    ·rw [if_neg c2] at this
     rw [if_neg (by rw [beq_iff_eq];omega)]
     exact this
  by_cases c : (restE A B).length = A.length
  ·refine ⟨([],false),by simp,fun k hk => ⟨?_,im ([],6) 2000 (by omega) (fun k _ => by rw [if_pos c]) k (by omega)⟩⟩
   obtain ⟨k,rfl⟩ : ∃ q,k = q + 1:=⟨k - 1,by omega⟩
   rw [sp k (by omega),if_pos c]
  ·by_cases c2 : L.length = 0
   ·refine ⟨([],false),by simp,fun k hk => ⟨?_,im ([],6) 2000 (by omega) (fun k _ => by rw [if_neg c,if_pos c2]) k (by omega)⟩⟩
    obtain ⟨k,rfl⟩ : ∃ q,k = q + 1:=⟨k - 1,by omega⟩
    rw [sp k (by omega),if_neg c,if_pos c2]
   ·have go : ∃ R : List S35 × Bool,R.1.length ≤ 1000 ∧ ∀ k,9500 ≤ k → spec_l04Join.l0 k (L.map (·.f0)) (L.map (·.f1)) 0 = some R ∧ impl_JoinPolygons.l3 k L (L.length : Int) 0 = some (toI R):=by
     cases hd : hitAll L L.length 0 with
     | true =>
      refine ⟨([],false),by simp,fun k hk => ?_⟩
      have:=dup_out L (by omega) (by omega) 6200 ([],false) ([],6) L.length k 0 (by omega) (by omega) (by omega) (fun h => by rw [hd] at h;cases h) (fun _ => ⟨rfl,rfl⟩)
      simp only [Int.natCast_zero] at this
      exact this
     | false =>
      obtain ⟨R,r1,r2⟩:=chase L (by omega) (by omega) hd (L.length + 1) 0 [] (by omega) (Nat.zero_le _) (by simp)
      refine ⟨R,r1,fun k hk => ?_⟩
      have:=dup_out L (by omega) (by omega) 6200 R (toI R) L.length k 0 (by omega) (by omega) (by omega) (fun _ k hk => by
       have:=r2 k (by omega)
       rw [List.nil_append] at this
       simp only [Int.natCast_zero] at this
       exact this) (fun h => by rw [hd] at h;cases h)
      simp only [Int.natCast_zero] at this
      exact this
    obtain ⟨R,r1,r2⟩:=go
    refine ⟨R,r1,fun k hk => ⟨?_,im (toI R) 9500 (by omega) (fun k hk => by rw [if_neg c,if_neg c2];exact (r2 k hk).2) k (by omega)⟩⟩
    obtain ⟨k,rfl⟩ : ∃ q,k = q + 1:=⟨k - 1,by omega⟩
    rw [sp k (by omega),if_neg c,if_neg c2]
    exact (r2 k (by omega)).1
theorem joins_eq (a b : List S35) (ha : a.length ≤ 1048576) (hb : b.length ≤ 1048576) : ∃ r : List S35 × Int,r.1.length ≤ 1000 ∧ (∀ k,20002 ≤ k → spec_JoinPolygons.f k a b = some r) ∧ (∀ k,20002 ≤ k → impl_JoinPolygons.f k a b = some r):=by
 obtain ⟨x,h1,h2,hx⟩:=spec_valid_eq a ha;obtain ⟨y,g1,g2,hy⟩:=spec_valid_eq b hb;unfold spec_JoinPolygons.f impl_JoinPolygons.f;(cases x with |false => (refine ⟨([],1),by simp,fun k hk => ?_,fun k hk => ?_⟩;(·obtain ⟨k,rfl⟩ : ∃ q,k = q + 1:=⟨k - 1,by omega⟩;rw [h1 _ (by omega)];rfl);(·obtain ⟨k,rfl⟩ : ∃ q,k = q + 1:=⟨k - 1,by omega⟩;rw [h2 _ (by omega)];rfl)) |true => ((cases y with |false => (refine ⟨([],1),by simp,fun k hk => ?_,fun k hk => ?_⟩;(·obtain ⟨k,rfl⟩ : ∃ q,k = q + 1:=⟨k - 1,by omega⟩;rw [h1 _ (by omega),g1 _ (by omega)];rfl);(·obtain ⟨k,rfl⟩ : ∃ q,k = q + 1:=⟨k - 1,by omega⟩;rw [h2 _ (by omega),g2 _ (by omega)];rfl)) |true => (obtain ⟨R,r1,r2⟩:=join_eq (hx.1 rfl) (hy.1 rfl);refine ⟨toI R,?_,fun k hk => ?_,fun k hk => ?_⟩;(·unfold toI;split;(·exact r1);(·simp));(·obtain ⟨k,rfl⟩ : ∃ q,k = q + 1:=⟨k - 1,by omega⟩;rw [h1 _ (by omega),g1 _ (by omega),Option.bind_some,if_pos rfl,Option.bind_some];simp only [spec_JoinPolygons.j0];rw [if_neg (by decide),(r2 k (by omega)).1,Option.bind_some];unfold toI;split <;> rfl);(·rw [h2 _ (by omega),g2 _ (by omega),Option.bind_some,if_pos rfl,Option.bind_some];exact (r2 k (by omega)).2)))))
theorem mark_from (x : List S35) (hn : x.length ≤ 1048576) (a : Int) (ha : 0 ≤ a ∧ a ≤ 1000000000000) : ∃ m : List S35,∀ k,x.length < k → laws_markPointS.f k x a = some (a + 2 * (x.length : Int),m):=by
 obtain ⟨m,_,_,h⟩:=pmark_at x.length hn a ha x.length 0 x rfl (by omega) (by omega) (fun j hj => absurd hj (by omega));refine ⟨m,fun k hk => ?_⟩;have:=h k hk;rw [show a + 2 * ((0 : Nat) : Int) = a by omega] at this;simp only [Int.natCast_zero] at this;unfold laws_markPointS.f;exact this
theorem FnExactJoinPolygons (l m : List S37) (hl : l.length ≤ maxLen) (hg : ∀ x ∈ l,(Lit.int .i64 x.f0).wf = true ∧ (Lit.int .i64 x.f1).wf = true) (hl2 : m.length ≤ maxLen) (hg2 : ∀ x ∈ m,(Lit.int .i64 x.f0).wf = true ∧ (Lit.int .i64 x.f1).wf = true) : ∃ k,laws_FnExactJoinPolygons.f k l m = some true:=by
 unfold maxLen at hl hl2;by_cases hs : l.length ≤ 1048576;(·by_cases hs2 : m.length ≤ 1048576 - l.length;(·obtain ⟨⟨g0,g1⟩,hr,h1,h2⟩:=joins_eq (conv l) (conv m) (by rw [conv_length];exact hs) (by rw [conv_length];omega);have hr : g0.length ≤ 1000:=hr;obtain ⟨m0,a1⟩:=mark_from (conv l) (by rw [conv_length];omega) 1 (by omega);obtain ⟨m2,a2⟩:=mark_from (conv m) (by rw [conv_length];omega) (1 + 2 * ((conv l).length : Int)) (by rw [conv_length];omega);obtain ⟨n1,m1,hn1,b1,b2⟩:=mark_held g0 (by omega);rw [conv_length] at a1 a2;rw [conv_length] at a2;have e1:=fun k (hk : l.length < k) => toPointS_eq l hs k hk;have e2:=fun k (hk : l.length < k) => eqPointS_self (conv l) (by rw [conv_length];omega) k (by rw [conv_length];exact hk);have f1:=fun k (hk : m.length < k) => toPointS_eq m (by omega) k hk;have f2:=fun k (hk : m.length < k) => eqPointS_self (conv m) (by rw [conv_length];omega) k (by rw [conv_length];exact hk);have e3:=fun k (hk : 1001 < k) => eqPointS_self g0 (by omega) k (by omega);have b1':=fun k (hk : 1001 < k) => b1 k (by omega);have b2':=fun k (hk : 1001 < k) => b2 k (by omega);(have q2 : ¬ (1048576 - (l.length : Int)) < 0:=by omega);(have s2 : laws_szPointS.f m (1048576 - (l.length : Int)) = some (1048576 - (l.length : Int) - m.length):=by unfold laws_szPointS.f;rw [w64 (by omega) (by omega),if_neg (by omega)]);(have q3 : ¬ (1048576 - (l.length : Int) - m.length) < 0:=by omega);(have q0 : ¬ (1 + 2 * (l.length : Int) + 2 * (m.length : Int)) < 0:=by omega);(have q1 : ¬ n1 < 0:=by omega);obtain ⟨B,hB⟩ : ∃ B : Nat,1048578 ≤ B:=⟨_,Nat.le_refl _⟩;refine ⟨B + 3,?_⟩;unfold laws_FnExactJoinPolygons.f;rw [sz_small l hs,Option.bind_some,if_neg q2,s2,Option.bind_some,if_neg q3,e1 (B + 3) (by omega),Option.bind_some,f1 (B + 3) (by omega),Option.bind_some,h1 (B + 3) (by omega),Option.bind_some,Option.bind_some,Option.bind_some,h2 (B + 3) (by omega),Option.bind_some];(try dsimp only);rw [e3 (B + 3) (by omega),Option.bind_some,if_pos rfl];simp only [laws_FnExactJoinPolygons.j0,bne_self_eq_false,Bool.false_eq_true,if_false];rw [e1 (B + 2) (by omega),Option.bind_some,e2 (B + 2) (by omega),Option.bind_some,if_pos rfl,f1 (B + 2) (by omega),Option.bind_some,f2 (B + 2) (by omega),Option.bind_some,if_pos rfl,a1 (B + 2) (by omega),Option.bind_some];(try dsimp only);rw [a2 (B + 2) (by omega),Option.bind_some];(try dsimp only);rw [if_neg q0,e3 (B + 2) (by omega),Option.bind_some,if_pos rfl];simp only [laws_FnExactJoinPolygons.j1,bne_self_eq_false,Bool.false_eq_true,if_false];rw [b1' (B + 1) (by omega),Option.bind_some];(try dsimp only);rw [b2' (B + 1) (by omega),Option.bind_some,if_neg q1,if_pos rfl,e1 (B + 1) (by omega),Option.bind_some,f1 (B + 1) (by omega),Option.bind_some,h2 (B + 1) (by omega),Option.bind_some];(try dsimp only);rw [e3 (B + 1) (by omega),Option.bind_some,if_pos rfl];simp only [laws_FnExactJoinPolygons.j2,bne_self_eq_false,Bool.false_eq_true,if_false];rw [b2' B (by omega),Option.bind_some,if_neg q1,if_pos rfl]);(·refine ⟨0,?_⟩;(have s2 : laws_szPointS.f m (1048576 - (l.length : Int)) = some (-1):=by unfold laws_szPointS.f;rw [w64 (by omega) (by omega),if_pos (by omega)]);unfold laws_FnExactJoinPolygons.f;rw [sz_small l hs,Option.bind_some,if_neg (by omega),s2];rfl));(·refine ⟨0,?_⟩;unfold laws_FnExactJoinPolygons.f;rw [sz_large l hl (by omega)];rfl)

end Go.Proofs.Ytlcfdfphldjolaa.Pure
