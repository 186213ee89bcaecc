/- The plain law: what FnExactPolygonDistance computes is true at every input. -/
import Derived.Test.YtkobmkdjmpnojaaLFnExactPolygonDistanceb
namespace Go.Proofs.Ytkobmkdjmpnojaa.Pure
open Go.RowKit Go.Proofs.Ytkobmkdjmpnojaa.PFnExactPolygonDistance Go.Proofs.YtkobmkdjmpnojaaW.PrintWords Go.Proofs.YtkobmkdjmpnojaaW.PrintLast Go.Proofs.YtkobmkdjmpnojaaW.PrintMore
set_option linter.unusedVariables false
set_option linter.unusedSimpArgs false

/-- Whether an edge turns the answer. -/
def flip (a1 b1 q1 s : Int) : Bool:=(decide (a1 ≤ q1) && (decide (q1 < b1) && decide (0 < s))) || (decide (b1 ≤ q1) && (decide (q1 < a1) && decide (s < 0)))
/-- One edge of a polygon at a point: on it, or whether it turns the answer. -/
def edgeOn (p : List S30) (q0 q1 : Int) (i : Nat) : Bool:=onW (p.getD i z30).f0 (p.getD i z30).f1 (p.getD ((i + 1) % p.length) z30).f0 (p.getD ((i + 1) % p.length) z30).f1 q0 q1
def edgeFlip (p : List S30) (q0 q1 : Int) (i : Nat) : Bool:=flip (p.getD i z30).f1 (p.getD ((i + 1) % p.length) z30).f1 q1 (sideW (p.getD i z30).f0 (p.getD i z30).f1 (p.getD ((i + 1) % p.length) z30).f0 (p.getD ((i + 1) % p.length) z30).f1 q0 q1)
theorem wneg1 : wrap64 (-1) = -1:=w64 (by omega) (by omega)
theorem wone : wrap64 1 = 1:=w64 (by omega) (by omega)
theorem wzero : wrap64 0 = 0:=w64 (by omega) (by omega)
theorem impl_inside_step (p : List S30) (hn : p.length ≤ 1000000000) (k i : Nat) (hi : i < p.length) (s q0 q1 : Int) : impl_inside.l0 (k + 1) p s p (p.length : Int) i q0 q1 =
  if edgeOn p q0 q1 i = true then some 0 else impl_inside.l0 k p (if edgeFlip p q0 q1 i = true then wrap64 (-s) else s) p (p.length : Int) ((i + 1 : Nat) : Int) q0 q1:=by
 have m1:=Nat.mod_lt (i + 1) (show 0 < p.length by omega)
 simp only [impl_inside.l0]
 rw [if_pos (by omega),if_pos (by omega),if_pos (by omega),if_neg (by omega),tm1 (by omega) hi,if_pos (by omega),if_pos (by omega),rdN,rdN]
 simp only [impl_on_eq,impl_side_eq,Option.bind_some,w1 (show i ≤ 4611686018427387904 by omega)]
 unfold edgeOn edgeFlip flip
 generalize onW (p.getD i z30).f0 (p.getD i z30).f1 (p.getD ((i + 1) % p.length) z30).f0 (p.getD ((i + 1) % p.length) z30).f1 q0 q1 = o
 have h3:=sideW_three (p.getD i z30).f0 (p.getD i z30).f1 (p.getD ((i + 1) % p.length) z30).f0 (p.getD ((i + 1) % p.length) z30).f1 q0 q1
 generalize sideW (p.getD i z30).f0 (p.getD i z30).f1 (p.getD ((i + 1) % p.length) z30).f0 (p.getD ((i + 1) % p.length) z30).f1 q0 q1 = sd at h3 ⊢
 generalize (p.getD i z30).f1 = a1
 generalize (p.getD ((i + 1) % p.length) z30).f1 = b1
 cases o with
 | true => rfl
 | false =>
  simp only [Bool.false_eq_true,if_false]
  by_cases ha : a1 ≤ q1
  ·have ha' : ¬ a1 > q1:=by omega
   have ha2 : ¬ q1 < a1:=by omega
   by_cases hb : b1 ≤ q1
   ·have hb' : ¬ b1 > q1:=by omega
    have hb2 : ¬ q1 < b1:=by omega
    simp [ha,ha',ha2,hb,hb',hb2]
   ·have hb' : b1 > q1:=by omega
    have hb2 : q1 < b1:=by omega
    have hc : ¬ b1 < a1:=by omega
    rcases h3 with rfl | rfl | rfl <;> simp [ha,ha',ha2,hb,hb',hb2,hc]
  ·have ha' : a1 > q1:=by omega
   have ha2 : q1 < a1:=by omega
   by_cases hb : b1 ≤ q1
   ·have hb' : ¬ b1 > q1:=by omega
    have hb2 : ¬ q1 < b1:=by omega
    have hc : b1 < a1:=by omega
    rcases h3 with rfl | rfl | rfl <;> simp [ha,ha',ha2,hb,hb',hb2,hc,wneg1,wone,wzero]
   ·have hb' : b1 > q1:=by omega
    have hb2 : q1 < b1:=by omega
    simp [ha,ha',ha2,hb,hb',hb2]
theorem impl_inside_ends (p : List S30) (hn : p.length ≤ 1000000000) (q0 q1 : Int) : ∀ (d i : Nat) (s : Int),p.length - i ≤ d → ∃ r,∀ k,d < k → impl_inside.l0 k p s p (p.length : Int) i q0 q1 = some r:=by
 intro d
 induction d with
 | zero =>
  intro i s hi
  refine ⟨s,fun k hk => ?_⟩
  obtain ⟨k,rfl⟩ : ∃ m,k = m + 1:=⟨k - 1,by omega⟩
  simp only [impl_inside.l0]
  rw [if_neg (by omega)]
 | succ d ih =>
  intro i s hi
  by_cases hlt : i < p.length
  ·obtain ⟨r,hr⟩:=ih (i + 1) (if edgeFlip p q0 q1 i = true then wrap64 (-s) else s) (by omega)
   refine ⟨if edgeOn p q0 q1 i = true then 0 else r,fun k hk => ?_⟩
   obtain ⟨k,rfl⟩ : ∃ m,k = m + 1:=⟨k - 1,by omega⟩
   rw [impl_inside_step p hn k i hlt,hr k (by omega)]
   split <;> rfl
  ·refine ⟨s,fun k hk => ?_⟩
   obtain ⟨k,rfl⟩ : ∃ m,k = m + 1:=⟨k - 1,by omega⟩
   simp only [impl_inside.l0]
   rw [if_neg (by omega)]

theorem spec_inside_step (p : List S30) (hn : p.length ≤ 1000000000) (k i : Nat) (hi : i < p.length) (s q0 q1 : Int) : spec_l03Inside.l0 (k + 1) p s i q0 q1 =
  if edgeOn p q0 q1 i = true then some 0 else spec_l03Inside.l0 k p (if edgeFlip p q0 q1 i = true then wrap64 (-s) else s) ((i + 1 : Nat) : Int) q0 q1:=by
 have m1:=Nat.mod_lt (i + 1) (show 0 < p.length by omega)
 simp only [spec_l03Inside.l0]
 rw [if_pos (by omega),if_pos (by omega),if_neg (by omega),tm1 (by omega) hi,if_pos (by omega),if_pos (by omega),rdN,rdN]
 simp only [spec_on_eq,spec_side_eq,Option.bind_some,w1 (show i ≤ 4611686018427387904 by omega)]
 unfold edgeOn edgeFlip flip
 generalize onW (p.getD i z30).f0 (p.getD i z30).f1 (p.getD ((i + 1) % p.length) z30).f0 (p.getD ((i + 1) % p.length) z30).f1 q0 q1 = o
 have h3:=sideW_three (p.getD i z30).f0 (p.getD i z30).f1 (p.getD ((i + 1) % p.length) z30).f0 (p.getD ((i + 1) % p.length) z30).f1 q0 q1
 generalize sideW (p.getD i z30).f0 (p.getD i z30).f1 (p.getD ((i + 1) % p.length) z30).f0 (p.getD ((i + 1) % p.length) z30).f1 q0 q1 = sd at h3 ⊢
 generalize (p.getD i z30).f1 = a1
 generalize (p.getD ((i + 1) % p.length) z30).f1 = b1
 cases o with
 | true => rfl
 | false =>
  simp only [Bool.false_eq_true,if_false]
  by_cases ha : a1 ≤ q1
  ·have ha' : ¬ a1 > q1:=by omega
   have ha2 : ¬ q1 < a1:=by omega
   by_cases hb : b1 ≤ q1
   ·have hb' : ¬ b1 > q1:=by omega
    have hb2 : ¬ q1 < b1:=by omega
    simp [ha,ha',ha2,hb,hb',hb2]
   ·have hb' : b1 > q1:=by omega
    have hb2 : q1 < b1:=by omega
    rcases h3 with rfl | rfl | rfl <;> simp [ha,ha',ha2,hb,hb',hb2]
  ·have ha' : a1 > q1:=by omega
   have ha2 : q1 < a1:=by omega
   by_cases hb : b1 ≤ q1
   ·have hb' : ¬ b1 > q1:=by omega
    have hb2 : ¬ q1 < b1:=by omega
    rcases h3 with rfl | rfl | rfl <;> simp [ha,ha',ha2,hb,hb',hb2]
   ·have hb' : b1 > q1:=by omega
    have hb2 : q1 < b1:=by omega
    simp [ha,ha',ha2,hb,hb',hb2]
theorem inside_lock (p : List S30) (hn : p.length ≤ 1000000000) (q0 q1 : Int) : ∀ (k i : Nat) (s : Int),spec_l03Inside.l0 k p s i q0 q1 = impl_inside.l0 k p s p (p.length : Int) i q0 q1
 | 0,_,_ => rfl
 | k + 1,i,s => by
  by_cases hi : i < p.length
  ·rw [spec_inside_step p hn k i hi,impl_inside_step p hn k i hi,inside_lock p hn q0 q1 k]
  ·simp only [spec_l03Inside.l0,impl_inside.l0]
   rw [if_neg (by omega),if_neg (by omega)]
theorem inside_eq (p : List S30) (hn : p.length ≤ 1000000000) (q0 q1 : Int) : ∃ r,∀ k,p.length < k → spec_l03Inside.f k p q0 q1 = some r ∧ impl_inside.f k p q0 q1 = some r:=by
 obtain ⟨r,hr⟩:=impl_inside_ends p hn q0 q1 p.length 0 (-1) (by omega)
 refine ⟨r,fun k hk => ⟨?_,hr k hk⟩⟩
 unfold spec_l03Inside.f
 have:=inside_lock p hn q0 q1 k 0 (-1)
 simp only [Int.natCast_zero] at this
 rw [this]
 exact hr k hk

theorem mid_of (lo hi : Int) (h0 : 0 ≤ lo) (h : lo < hi) (hM : hi ≤ 3037000499) : ∃ m,wrap64 (Int.tdiv (wrap64 ((wrap64 (lo + hi)) + 1)) 2) = m ∧ lo < m ∧ m ≤ hi:=by
 refine ⟨(lo + hi + 1) / 2,?_,by omega,by omega⟩
 rw [w64 (x:=lo + hi) (by omega) (by omega),w64 (x:=lo + hi + 1) (by omega) (by omega),Int.tdiv_eq_ediv_of_nonneg (by omega),w64 (by omega) (by omega)]
theorem sq_le {a b : Int} (h0 : 0 ≤ a) (h : a ≤ b) : a * a ≤ b * b:=Int.mul_le_mul h h h0 (by omega)
/-- What both searches find: the root, rounded down. -/
def IsRoot (n r : Int) : Prop:=0 ≤ r ∧ r ≤ 3037000499 ∧ (r = 0 ∨ r * r ≤ n) ∧ (r = 3037000499 ∨ n < (r + 1) * (r + 1))
theorem root_one {n r q : Int} (h1 : IsRoot n r) (h2 : IsRoot n q) : r = q:=by
 obtain ⟨a0,a1,a2,a3⟩:=h1
 obtain ⟨b0,b1,b2,b3⟩:=h2
 rcases Int.lt_trichotomy r q with h | h | h
 ·exfalso
  have:=sq_le (a:=r + 1) (b:=q) (by omega) (by omega)
  omega
 ·exact h
 ·exfalso
  have:=sq_le (a:=q + 1) (b:=r) (by omega) (by omega)
  omega
theorem spec_root_loop (n : Int) : ∀ (d k : Nat) (lo hi : Int),0 ≤ lo → lo ≤ hi → hi ≤ 3037000499 → hi - lo ≤ d → d < k → (lo = 0 ∨ lo * lo ≤ n) → (hi = 3037000499 ∨ n < (hi + 1) * (hi + 1)) →
  ∃ r,spec_l01Root.l0 k n lo hi = some r ∧ IsRoot n r
 | d,0,_,_,_,_,_,_,h,_,_ => absurd h (by omega)
 | d,k + 1,lo,hi,h0,h1,h2,h3,h4,h5,h6 => by
  simp only [spec_l01Root.l0]
  by_cases hlt : lo < hi
  ·rw [if_pos hlt]
   obtain ⟨m,hm,m1,m2⟩:=mid_of lo hi h0 hlt h2
   rw [hm]
   have hsq:=sq_le (a:=m) (b:=3037000499) (by omega) (by omega)
   have hsq0 : 0 ≤ m * m:=Int.mul_nonneg (by omega) (by omega)
   rw [w64 (x:=m * m) (by omega) (by omega),w64 (x:=m - 1) (by omega) (by omega)]
   by_cases hle : m * m ≤ n
   ·rw [if_pos hle]
    exact spec_root_loop n (d - 1) k m hi (by omega) m2 h2 (by omega) (by omega) (.inr hle) h6
   ·rw [if_neg hle]
    refine spec_root_loop n (d - 1) k lo (m - 1) h0 (by omega) (by omega) (by omega) (by omega) h5 (.inr ?_)
    rw [show m - 1 + 1 = m by omega]
    omega
  ·rw [if_neg hlt]
   have : lo = hi:=by omega
   subst this
   exact ⟨lo,rfl,h0,h2,h5,h6⟩
theorem le_div_iff (m n : Int) (h : 0 < m) (hn : 0 ≤ n) : m ≤ Int.tdiv n m ↔ m * m ≤ n:=by
 rw [Int.tdiv_eq_ediv_of_nonneg hn]
 exact Int.le_ediv_iff_mul_le h
theorem impl_root_loop (n : Int) (hn0 : 1 ≤ n) (hn1 : n ≤ 9223372036854775807) : ∀ (d k : Nat) (lo hi : Int),1 ≤ lo → lo ≤ hi → hi ≤ 3037000499 → hi - lo ≤ d → d < k → lo * lo ≤ n → (hi = 3037000499 ∨ n < (hi + 1) * (hi + 1)) →
  ∃ r,impl_RootOf.l0 k n lo hi = some r ∧ IsRoot n r
 | d,0,_,_,_,_,_,_,h,_,_ => absurd h (by omega)
 | d,k + 1,lo,hi,h0,h1,h2,h3,h4,h5,h6 => by
  simp only [impl_RootOf.l0]
  by_cases hlt : lo < hi
  ·rw [if_pos hlt]
   obtain ⟨m,hm,m1,m2⟩:=mid_of lo hi (by omega) hlt h2
   rw [hm,if_neg (by omega)]
   have hq : 0 ≤ Int.tdiv n m ∧ Int.tdiv n m ≤ n:=by
    rw [Int.tdiv_eq_ediv_of_nonneg (by omega)]
    exact ⟨Int.ediv_nonneg (by omega) (by omega),Int.ediv_le_self _ (by omega)⟩
   rw [w64 (x:=Int.tdiv n m) (by omega) (by omega),w64 (x:=m - 1) (by omega) (by omega)]
   have hi_:=le_div_iff m n (by omega) (by omega)
   by_cases hle : m ≤ Int.tdiv n m
   ·rw [if_pos hle]
    exact impl_root_loop n hn0 hn1 (d - 1) k m hi (by omega) m2 h2 (by omega) (by omega) (hi_.1 hle) h6
   ·rw [if_neg hle]
    refine impl_root_loop n hn0 hn1 (d - 1) k lo (m - 1) h0 (by omega) (by omega) (by omega) (by omega) h5 (.inr ?_)
    rw [show m - 1 + 1 = m by omega]
    have : ¬ m * m ≤ n:=fun h => hle (hi_.2 h)
    omega
  ·rw [if_neg hlt]
   have : lo = hi:=by omega
   subst this
   exact ⟨lo,rfl,by omega,h2,.inr h5,h6⟩
theorem roots (n : Int) (h0 : -9223372036854775808 ≤ n) (h1 : n ≤ 9223372036854775807) : ∃ r,(∀ k,3037000500 ≤ k → spec_l01Root.f k n = some r) ∧ (∀ k,3037000500 ≤ k → impl_RootOf.f k n = some r) ∧ IsRoot n r:=by
 obtain ⟨r,hr,hR⟩:=spec_root_loop n 3037000499 3037000500 0 3037000499 (by omega) (by omega) (by omega) (by omega) (by omega) (.inl rfl) (.inl rfl)
 refine ⟨r,fun k hk => at_rounds (fun k => spec_l01Root.mono_l k _ _ _) hk hr,?_,hR⟩
 unfold impl_RootOf.f
 by_cases hn : n < 1
 ·refine fun k _ => ?_
  rw [if_pos hn]
  have : IsRoot n 0:=⟨by omega,by omega,.inl rfl,.inr (by omega)⟩
  rw [root_one hR this]
 ·obtain ⟨q,hq,hQ⟩:=impl_root_loop n (by omega) h1 3037000498 3037000499 1 3037000499 (by omega) (by omega) (by omega) (by omega) (by omega) (by omega) (.inl rfl)
  refine fun k hk => ?_
  rw [if_neg hn,root_one hR hQ]
  exact at_rounds (fun k => impl_RootOf.mono_l k _ _ _) (by omega) hq

def sqW (a0 a1 b0 b1 : Int) : Int:=wrap64 ((wrap64 ((wrap64 (a0 - b0)) * (wrap64 (a0 - b0)))) + (wrap64 ((wrap64 (a1 - b1)) * (wrap64 (a1 - b1)))))
theorem wrap64_range (x : Int) : -9223372036854775808 ≤ wrap64 x ∧ wrap64 x ≤ 9223372036854775807:=by
 unfold wrap64
 omega
theorem sqW_range (a0 a1 b0 b1 : Int) : -9223372036854775808 ≤ sqW a0 a1 b0 b1 ∧ sqW a0 a1 b0 b1 ≤ 9223372036854775807:=wrap64_range _
theorem spec_square_eq (a0 a1 b0 b1 : Int) : spec_l02Square.f a0 a1 b0 b1 = some (sqW a0 a1 b0 b1):=rfl
theorem impl_squared_eq (a0 a1 b0 b1 : Int) : impl_squared.f a0 a1 b0 b1 = some (sqW a0 a1 b0 b1):=rfl

theorem mul_self_nonneg' (a : Int) : 0 ≤ a * a:=by
 rcases Int.le_total 0 a with h | h
 ·exact Int.mul_nonneg h h
 ·have:=Int.mul_nonneg (show 0 ≤ -a by omega) (show 0 ≤ -a by omega)
  rwa [Int.neg_mul_neg] at this
theorem prod_in2 {a b M N : Int} (ha : -M ≤ a ∧ a ≤ M) (hb : -N ≤ b ∧ b ≤ N) (hM : 0 ≤ M) (hN : 0 ≤ N) : -(M * N) ≤ a * b ∧ a * b ≤ M * N:=by
 rcases Int.le_total 0 a with h | h
 ·have h1 : a * b ≤ a * N:=Int.mul_le_mul_of_nonneg_left hb.2 h
  have h2 : a * (-N) ≤ a * b:=Int.mul_le_mul_of_nonneg_left hb.1 h
  have h3 : a * N ≤ M * N:=Int.mul_le_mul_of_nonneg_right ha.2 hN
  rw [Int.mul_neg] at h2
  omega
 ·have h1 : (-a) * b ≤ (-a) * N:=Int.mul_le_mul_of_nonneg_left hb.2 (by omega)
  have h2 : (-a) * (-N) ≤ (-a) * b:=Int.mul_le_mul_of_nonneg_left hb.1 (by omega)
  have h3 : (-a) * N ≤ M * N:=Int.mul_le_mul_of_nonneg_right (by omega) hN
  have e1 : (-a) * b = -(a * b):=Int.neg_mul a b
  have e2 : (-a) * N = -(a * N):=Int.neg_mul a N
  have e3 : (-a) * (-N) = a * N:=Int.neg_mul_neg a N
  omega
theorem prod_in {a b M : Int} (ha : -M ≤ a ∧ a ≤ M) (hb : -M ≤ b ∧ b ≤ M) (hM : 0 ≤ M) : -(M * M) ≤ a * b ∧ a * b ≤ M * M:=prod_in2 ha hb hM hM

theorem wraps_u64 : ∀ n : Int,0 ≤ n → n < 18446744073709551616 → IntKind.u64.wrap n = n:=by
 intro n h0 h1
 rw [IntKind.wrap_u64]
 omega
theorem and_mask (a : Int) (h0 : 0 ≤ a) (h1 : a < 4294967296) : Go.bits .and .u64 a 4294967295 = a:=by
 have:=Go.bits_mask .u64 64 (by decide) (fun n a b => wraps_u64 n a b) 32 (by decide) a h0 (by omega)
 have e : ((2 : Int) ^ 32 - 1) = 4294967295:=by decide
 have e2 : ((2 : Int) ^ 32) = 4294967296:=by decide
 rw [e,e2] at this
 rw [this]
 omega
theorem mul64_small (x : Int) (h0 : 0 ≤ x) (h1 : x ≤ 4000000000) : bits_Mul64.f x x = some (0,x * x):=by
 have hp : 0 ≤ x * x ∧ x * x ≤ 4000000000 * 4000000000:=⟨Int.mul_nonneg h0 h0,Int.mul_le_mul h1 h1 h0 (by omega)⟩
 have d : x / 4294967296 = 0:=by omega
 unfold bits_Mul64.f
 rw [d,and_mask x h0 (by omega)]
 simp only [Int.zero_mul,Int.mul_zero]
 generalize x * x = y at hp ⊢
 have e0 : IntKind.u64.wrap 0 = 0:=wraps_u64 0 (by omega) (by omega)
 rw [e0,wraps_u64 y hp.1 (by omega)]
 have d2 : 0 + y / 4294967296 = y / 4294967296:=by omega
 rw [d2,wraps_u64 (y / 4294967296) (by omega) (by omega)]
 have d3 : y / 4294967296 / 4294967296 = 0:=by omega
 rw [d3,and_mask (y / 4294967296) (by omega) (by omega)]
 have d4 : y / 4294967296 + 0 = y / 4294967296:=by omega
 rw [d4,wraps_u64 (y / 4294967296) (by omega) (by omega),d3]
 simp only [Int.zero_add,e0,Int.add_zero]
def alongW (a0 a1 b0 b1 p0 p1 : Int) : Int:=wrap64 ((wrap64 ((wrap64 (b0 - a0)) * (wrap64 (p0 - a0)))) + (wrap64 ((wrap64 (b1 - a1)) * (wrap64 (p1 - a1)))))
theorem along_swap (a0 a1 b0 b1 p0 p1 : Int) : wrap64 ((wrap64 ((wrap64 (p0 - a0)) * (wrap64 (b0 - a0)))) + (wrap64 ((wrap64 (p1 - a1)) * (wrap64 (b1 - a1))))) = alongW a0 a1 b0 b1 p0 p1:=by
 unfold alongW
 rw [Int.mul_comm (wrap64 (p0 - a0)),Int.mul_comm (wrap64 (p1 - a1))]
theorem mx_neg (c : Int) (h : -4000000000 ≤ c ∧ c ≤ 4000000000) : ∃ x,IntKind.u64.wrap (mx c (wrap64 (-c))) = x ∧ 0 ≤ x ∧ x ≤ 4000000000 ∧ x * x = c * c:=by
 rw [w64 (x:=-c) (by omega) (by omega)]
 unfold mx
 by_cases hc : c < -c
 ·rw [if_pos hc]
  exact ⟨-c,wraps_u64 _ (by omega) (by omega),by omega,by omega,by rw [Int.neg_mul_neg]⟩
 ·rw [if_neg hc]
  exact ⟨c,wraps_u64 _ (by omega) (by omega),by omega,by omega,rfl⟩
/-- Both distances of a point and a segment are the same. -/
theorem fars (a0 a1 b0 b1 p0 p1 : Int) (ha : okP a0 a1 = true) (hb : okP b0 b1 = true) (hp : okP p0 p1 = true) : ∃ r,∀ k,3037000500 ≤ k → spec_l02Far.f k a0 a1 b0 b1 p0 p1 = some r ∧ impl_toSegment.f k a0 a1 b0 b1 p0 p1 = some r:=by
 obtain ⟨⟨A1,A2⟩,A3,A4⟩:=(okP_iff _ _).1 ha
 obtain ⟨⟨B1,B2⟩,B3,B4⟩:=(okP_iff _ _).1 hb
 obtain ⟨⟨P1,P2⟩,P3,P4⟩:=(okP_iff _ _).1 hp
 unfold spec_l02Far.f impl_toSegment.f spec_l02Apart.f
 simp only [spec_square_eq,impl_squared_eq,Option.bind_some]
 have z0 : wrap64 ((wrap64 ((wrap64 (b0 - a0)) * (wrap64 (p0 - a0)))) + (wrap64 ((wrap64 (b1 - a1)) * (wrap64 (p1 - a1))))) = alongW a0 a1 b0 b1 p0 p1:=rfl
 have z1:=along_swap a0 a1 b0 b1 p0 p1
 simp only [z0,z1]
 have sq : 0 ≤ sqW a0 a1 b0 b1 ∧ sqW a0 a1 b0 b1 ≤ 800000000:=by
  have h1:=prod_in (a:=a0 - b0) (b:=a0 - b0) (M:=20000) (by omega) (by omega) (by omega)
  have h2:=prod_in (a:=a1 - b1) (b:=a1 - b1) (M:=20000) (by omega) (by omega) (by omega)
  have h3:=mul_self_nonneg' (a0 - b0)
  have h4:=mul_self_nonneg' (a1 - b1)
  unfold sqW
  rw [w64 (x:=a0 - b0) (by omega) (by omega),w64 (x:=a1 - b1) (by omega) (by omega),w64 (x:=(a0 - b0) * (a0 - b0)) (by omega) (by omega),w64 (x:=(a1 - b1) * (a1 - b1)) (by omega) (by omega),w64 (by omega) (by omega)]
  omega
 have cr : -800000000 ≤ wrap64 ((wrap64 ((wrap64 (b0 - a0)) * (wrap64 (p1 - a1)))) - (wrap64 ((wrap64 (b1 - a1)) * (wrap64 (p0 - a0))))) ∧ wrap64 ((wrap64 ((wrap64 (b0 - a0)) * (wrap64 (p1 - a1)))) - (wrap64 ((wrap64 (b1 - a1)) * (wrap64 (p0 - a0))))) ≤ 800000000:=by
  have h1:=prod_in (a:=b0 - a0) (b:=p1 - a1) (M:=20000) (by omega) (by omega) (by omega)
  have h2:=prod_in (a:=b1 - a1) (b:=p0 - a0) (M:=20000) (by omega) (by omega) (by omega)
  rw [w64 (x:=b0 - a0) (by omega) (by omega),w64 (x:=b1 - a1) (by omega) (by omega),w64 (x:=p0 - a0) (by omega) (by omega),w64 (x:=p1 - a1) (by omega) (by omega),w64 (x:=(b0 - a0) * (p1 - a1)) (by omega) (by omega),w64 (x:=(b1 - a1) * (p0 - a0)) (by omega) (by omega),w64 (by omega) (by omega)]
  omega
 by_cases h1 : alongW a0 a1 b0 b1 p0 p1 ≤ 0
 ·obtain ⟨r,r1,r2,_⟩:=roots (sqW a0 a1 p0 p1) (sqW_range _ _ _ _).1 (sqW_range _ _ _ _).2
  refine ⟨r,fun k hk => ?_⟩
  simp only [h1,if_true,r1 k hk,r2 k hk]
  exact ⟨by first | rfl | trivial,by first | rfl | trivial⟩
 ·by_cases h2 : alongW a0 a1 b0 b1 p0 p1 ≥ sqW a0 a1 b0 b1
  ·obtain ⟨r,r1,r2,_⟩:=roots (sqW b0 b1 p0 p1) (sqW_range _ _ _ _).1 (sqW_range _ _ _ _).2
   refine ⟨r,fun k hk => ?_⟩
   simp only [h1,h2,if_true,if_false,r1 k hk,r2 k hk]
   exact ⟨by first | rfl | trivial,by first | rfl | trivial⟩
  ·have hL : 0 < sqW a0 a1 b0 b1:=by omega
   unfold spec_l02Cross.f
   simp only [Option.bind_some]
   generalize wrap64 ((wrap64 ((wrap64 (b0 - a0)) * (wrap64 (p1 - a1)))) - (wrap64 ((wrap64 (b1 - a1)) * (wrap64 (p0 - a0))))) = c at cr ⊢
   generalize sqW a0 a1 b0 b1 = L at sq h2 hL ⊢
   obtain ⟨x,e1,x0,x1,e2⟩:=mx_neg c (by omega)
   have hcc:=prod_in (a:=c) (b:=c) (M:=800000000) (by omega) (by omega) (by omega)
   have hc0:=mul_self_nonneg' c
   rw [e1,mul64_small x x0 x1,e2,wraps_u64 L (by omega) (by omega)]
   generalize c * c = cc at hcc hc0 ⊢
   have q0:=Int.ediv_nonneg hc0 (show 0 ≤ L by omega)
   have q1:=Int.ediv_le_self L hc0
   obtain ⟨r,r1,r2,_⟩:=roots (cc / L) (by omega) (by omega)
   refine ⟨r,fun k hk => ?_⟩
   have h3 : ¬ L = 0:=by omega
   simp only [h1,h2,h3,if_false]
   rw [w64 (x:=cc) (by omega) (by omega),Int.tdiv_eq_ediv_of_nonneg hc0,w64 (x:=cc / L) (by omega) (by omega),r1 k hk]
   unfold bits_Div64.f
   simp only [Option.bind_some]
   rw [if_pos True.intro,if_pos hL,if_pos hc0,if_pos (by omega),if_pos (by omega)]
   simp only [Option.bind_some]
   rw [w64 (x:=cc / L) (by omega) (by omega),r2 k hk]
   exact ⟨by first | rfl | trivial,by first | rfl | trivial⟩

theorem spec_touches_eq (a0 a1 b0 b1 c0 c1 d0 d1 : Int) : spec_l02Touches.f a0 a1 b0 b1 c0 c1 d0 d1 = some (touchW a0 a1 b0 b1 c0 c1 d0 d1):=by
 unfold spec_l02Touches.f touchW
 simp only [spec_crosses_eq,spec_on_eq]
 exact touch_fold _ _ _ _ _

theorem mn4 (x y z u : Int) : mn (mn (mn x y) z) u = mn (mn x y) (mn z u):=by
 unfold mn
 repeat' split
 all_goals omega
/-- Both distances of two segments are the same. -/
theorem gaps (a0 a1 b0 b1 c0 c1 d0 d1 : Int) (ha : okP a0 a1 = true) (hb : okP b0 b1 = true) (hc : okP c0 c1 = true) (hd : okP d0 d1 = true) : ∃ r,∀ k,3037000500 ≤ k → spec_l02Gap.f k a0 a1 b0 b1 c0 c1 d0 d1 = some r ∧ impl_betweenSegments.f k a0 a1 b0 b1 c0 c1 d0 d1 = some r:=by
 obtain ⟨r1,h1⟩:=fars a0 a1 b0 b1 c0 c1 ha hb hc
 obtain ⟨r2,h2⟩:=fars a0 a1 b0 b1 d0 d1 ha hb hd
 obtain ⟨r3,h3⟩:=fars c0 c1 d0 d1 a0 a1 hc hd ha
 obtain ⟨r4,h4⟩:=fars c0 c1 d0 d1 b0 b1 hc hd hb
 refine ⟨if touchW a0 a1 b0 b1 c0 c1 d0 d1 = true then 0 else mn (mn r1 r2) (mn r3 r4),fun k hk => ?_⟩
 unfold spec_l02Gap.f impl_betweenSegments.f
 simp only [spec_touches_eq,impl_touching_eq,Option.bind_some,(h1 k hk).1,(h1 k hk).2,(h2 k hk).1,(h2 k hk).2,(h3 k hk).1,(h3 k hk).2,(h4 k hk).1,(h4 k hk).2,spec_min_eq,mn4]
 constructor <;> split <;> rfl

/-- The law's points as the program's. -/
def conv (l : List S24) : List S30:=l.map fun s => ⟨s.f0,s.f1⟩
theorem conv_length (l : List S24) : (conv l).length = l.length:=by
 unfold conv
 rw [List.length_map]
theorem sz_small (l : List S24) (h : l.length ≤ 1048576) : laws_szPointS.f l 1048576 = some (1048576 - (l.length : Int)):=by
 unfold laws_szPointS.f
 rw [w64 (by omega) (by omega),if_neg (by omega)]
theorem sz_large (l : List S24) (hm : l.length ≤ 9223372036854775807) (h : 1048576 < l.length) : laws_szPointS.f l 1048576 = some (-1):=by
 unfold laws_szPointS.f
 rw [w64 (by omega) (by omega),if_pos (by omega)]
theorem rdLN (l : List S24) (j : Nat) : rd_T24 l (j : Int) = l.getD j z24:=by
 unfold rd_T24
 rw [Int.toNat_natCast]
theorem toPointS_loop (l : List S24) (h : l.length ≤ 1048576) : ∀ (d k i : Nat) (x : List S30),i ≤ l.length → l.length - i ≤ d → d < k → x.length = l.length → laws_toPointS.l0 k l x i = some (x.take i ++ (conv l).drop i)
 | d,0,i,x,_,_,h2,_ => absurd h2 (by omega)
 | d,k + 1,i,x,h0,h1,h2,hx => by
  simp only [laws_toPointS.l0,laws_toPoint.f]
  by_cases hi : i < l.length
  ·rw [if_pos (by omega),if_pos (by omega),Option.bind_some,if_pos (by omega),w1 (by omega),toPointS_loop l h (d - 1) k (i + 1) _ (by omega) (by omega) (by omega) (by rw [List.length_set,hx]),rdLN]
   have e : l.getD i z24 = l[i]:=by
    rw [List.getD_eq_getElem?_getD,List.getElem?_eq_getElem hi]
    rfl
   rw [e,Int.toNat_natCast,List.take_succ_eq_append_getElem (by rw [List.length_set,hx];exact hi),List.getElem_set_self,List.take_set_of_le (Nat.le_refl _),List.append_assoc]
   congr 2
   rw [List.drop_eq_getElem_cons (i:=i) (by rw [conv_length];exact hi)]
   unfold conv
   rw [List.getElem_map]
   rfl
  ·rw [if_neg (by omega),List.take_of_length_le (by omega),List.drop_eq_nil_of_le (by rw [conv_length];omega),List.append_nil]
theorem toPointS_eq (l : List S24) (h : l.length ≤ 1048576) (k : Nat) (hk : l.length < k) : laws_toPointS.f k l = some (conv l):=by
 unfold laws_toPointS.f
 rw [if_pos (by omega),if_pos (by omega)]
 have:=toPointS_loop l h l.length k 0 (List.replicate ((l.length : Int) : Int).toNat z30) (by omega) (by omega) hk (by rw [List.length_replicate,Int.toNat_natCast])
 simp only [Int.natCast_zero] at this
 rw [this,List.take_zero,List.nil_append,List.drop_zero]
theorem eqPoint_self (x y : Int) : laws_eqPoint.f x y x y = some true:=by
 unfold laws_eqPoint.f
 rw [if_pos rfl,if_pos rfl]
theorem eqPointS_loop (l : List S30) (h : l.length ≤ 1000000000) : ∀ (d k i : Nat),l.length - i ≤ d → d < k → laws_eqPointS.l0 k l l i = some true
 | d,0,i,_,h2 => absurd h2 (by omega)
 | d,k + 1,i,h1,h2 => by
  simp only [laws_eqPointS.l0]
  by_cases hi : i < l.length
  ·rw [if_pos (by omega),if_pos (by omega),if_pos (by omega),eqPoint_self,Option.bind_some,if_pos rfl,w1 (by omega)]
   exact eqPointS_loop l h (d - 1) k (i + 1) (by omega) (by omega)
  ·rw [if_neg (by omega)]
theorem eqPointS_self (l : List S30) (h : l.length ≤ 1000000000) (k : Nat) (hk : l.length < k) : laws_eqPointS.f k l l = some true:=by
 unfold laws_eqPointS.f
 rw [if_pos rfl]
 exact eqPointS_loop l h l.length k 0 (by omega) hk

theorem back_eq (l : List S24) (h : l.length ≤ 1048576) (k : Nat) (hk : l.length < k) : ((laws_toPointS.f k l).bind fun t => (laws_eqPointS.f k (conv l) t).bind fun b => if b = true then some true else some false) = some true:=by
 rw [toPointS_eq l h k hk,Option.bind_some,eqPointS_self (conv l) (by rw [conv_length];omega) k (by rw [conv_length];omega)]
 rfl

theorem okAt {p : List S30} (h : (p.all fun s => okP s.f0 s.f1) = true) {i : Nat} (hi : i < p.length) : okP (p.getD i z30).f0 (p.getD i z30).f1 = true:=by
 rw [List.getD_eq_getElem?_getD,List.getElem?_eq_getElem hi]
 exact List.all_eq_true.1 h _ (List.getElem_mem hi)
theorem gap_ends {p q : List S30} (hp : (p.all fun s => okP s.f0 s.f1) = true) (hq : (q.all fun s => okP s.f0 s.f1) = true) (np : p.length ≤ 24) (nq : q.length ≤ 24) {N : Nat} (hN : 3037000500 ≤ N) : ∀ (e i : Nat) (best : Int),p.length - i ≤ e → ∃ r,∀ k,N + 30 * e + 5 ≤ k → spec_l04Distance.l0 k p q best i = some r ∧ impl_gap.l0 k p q best (p.length : Int) i = some r:=by
 intro e
 induction e with
 | zero =>
  intro i best hi
  refine ⟨best,fun k hk => ?_⟩
  obtain ⟨k,rfl⟩ : ∃ m,k = m + 1:=⟨k - 1,by omega⟩
  simp only [spec_l04Distance.l0,impl_gap.l0]
  rw [if_neg (by omega),if_neg (by omega)]
  exact ⟨rfl,rfl⟩
 | succ e ih =>
  intro i best hi
  by_cases hlt : i < p.length
  ·have inner : ∀ (d j : Nat) (b : Int),q.length - j ≤ d → ∃ r,∀ k,N + 30 * e + 5 + d + 1 ≤ k → spec_l04Distance.l1 k p q b i j = some r ∧ impl_gap.l1 k p q b i (p.length : Int) i (q.length : Int) j = some r:=by
    intro d
    induction d with
    | zero =>
     intro j b hj
     obtain ⟨r,hr⟩:=ih (i + 1) b (by omega)
     refine ⟨r,fun k hk => ?_⟩
     obtain ⟨k,rfl⟩ : ∃ m,k = m + 1:=⟨k - 1,by omega⟩
     simp only [spec_l04Distance.l1,impl_gap.l1]
     rw [if_neg (by omega),if_neg (by omega),w1 (by omega)]
     exact hr k (by omega)
    | succ d ihd =>
     intro j b hj
     by_cases hjl : j < q.length
     ·have m1:=Nat.mod_lt (i + 1) (show 0 < p.length by omega)
      have m2:=Nat.mod_lt (j + 1) (show 0 < q.length by omega)
      obtain ⟨g,hg⟩:=gaps _ _ _ _ _ _ _ _ (okAt hp hlt) (okAt hp m1) (okAt hq hjl) (okAt hq m2)
      obtain ⟨r,hr⟩:=ihd (j + 1) (if b < 0 then g else if g < b then g else b) (by omega)
      refine ⟨r,fun k hk => ?_⟩
      obtain ⟨k,rfl⟩ : ∃ m,k = m + 1:=⟨k - 1,by omega⟩
      have h1:=hg k (by omega)
      have h2:=hr k (by omega)
      simp only [spec_l04Distance.l1,impl_gap.l1]
      rw [tm1 (by omega) hlt,tm1 (by omega) hjl,rdN,rdN,rdN,rdN,w1 (show j ≤ 4611686018427387904 by omega)]
      have c1 : (j : Int) < (q.length : Int):=by omega
      have c2 : (0 : Int) ≤ i:=by omega
      have c3 : (i : Int) < (p.length : Int):=by omega
      have c4 : ¬ ((p.length : Int) = 0):=by omega
      have c5 : (0 : Int) ≤ (((i + 1) % p.length : Nat) : Int):=by omega
      have c6 : (((i + 1) % p.length : Nat) : Int) < (p.length : Int):=by omega
      have c7 : (0 : Int) ≤ j:=by omega
      have c8 : ¬ ((q.length : Int) = 0):=by omega
      have c9 : (0 : Int) ≤ (((j + 1) % q.length : Nat) : Int):=by omega
      have c10 : (((j + 1) % q.length : Nat) : Int) < (q.length : Int):=by omega
      simp only [if_pos c1,if_pos c2,if_pos c3,if_neg c4,if_pos c5,if_pos c6,if_pos c7,if_neg c8,if_pos c9,if_pos c10]
      rw [h1.1,h1.2]
      simp only [Option.bind_some]
      by_cases hb : b < 0
      ·simp only [if_pos hb] at h2 ⊢
       exact h2
      ·by_cases hgb : g < b
       ·simp only [if_neg hb,if_pos hgb] at h2 ⊢
        exact h2
       ·simp only [if_neg hb,if_neg hgb] at h2 ⊢
        exact h2
     ·obtain ⟨r,hr⟩:=ih (i + 1) b (by omega)
      refine ⟨r,fun k hk => ?_⟩
      obtain ⟨k,rfl⟩ : ∃ m,k = m + 1:=⟨k - 1,by omega⟩
      simp only [spec_l04Distance.l1,impl_gap.l1]
      rw [if_neg (by omega),if_neg (by omega),w1 (by omega)]
      exact hr k (by omega)
   obtain ⟨r,hr⟩:=inner q.length 0 best (by omega)
   refine ⟨r,fun k hk => ?_⟩
   obtain ⟨k,rfl⟩ : ∃ m,k = m + 1:=⟨k - 1,by omega⟩
   simp only [spec_l04Distance.l0,impl_gap.l0]
   rw [if_pos (by omega),if_pos (by omega)]
   exact hr k (by omega)
  ·refine ⟨best,fun k hk => ?_⟩
   obtain ⟨k,rfl⟩ : ∃ m,k = m + 1:=⟨k - 1,by omega⟩
   simp only [spec_l04Distance.l0,impl_gap.l0]
   rw [if_neg (by omega),if_neg (by omega)]
   exact ⟨rfl,rfl⟩
theorem dist_eq {p q : List S30} (vp : Valid p) (vq : Valid q) {N : Nat} (hN : 3037000500 ≤ N) : ∃ r,∀ k,N + 1000 ≤ k → spec_l04Distance.f k p q = some r ∧ impl_gap.f k p q = some r:=by
 obtain ⟨p3,np,hp,_⟩:=vp
 obtain ⟨q3,nq,hq,_⟩:=vq
 obtain ⟨s1,hs1⟩:=inside_eq p (by omega) (q.getD 0 z30).f0 (q.getD 0 z30).f1
 obtain ⟨s2,hs2⟩:=inside_eq q (by omega) (p.getD 0 z30).f0 (p.getD 0 z30).f1
 obtain ⟨r,hr⟩:=gap_ends hp hq np nq hN p.length 0 (-1) (by omega)
 have e0 : rd_T30 p 0 = p.getD 0 z30:=rdN p 0
 have e1 : rd_T30 q 0 = q.getD 0 z30:=rdN q 0
 have c1 : (0 : Int) < (q.length : Int):=by omega
 have c2 : (0 : Int) < (p.length : Int):=by omega
 refine ⟨if s1 ≥ 0 then 0 else if s2 ≥ 0 then 0 else r,fun k hk => ?_⟩
 obtain ⟨k,rfl⟩ : ∃ m,k = m + 1:=⟨k - 1,by omega⟩
 have h1:=hs1 (k + 1) (by omega)
 have h2:=hs2 (k + 1) (by omega)
 unfold spec_l04Distance.f impl_gap.f
 rw [e0,e1,h1.1,h1.2,h2.1,h2.2,if_pos c1,if_pos c1,if_pos c2,if_pos c2]
 simp only [Option.bind_some]
 by_cases a : s1 ≥ 0
 ·simp only [if_pos a,spec_l04Distance.j0,impl_gap.j0,if_true]
  exact ⟨trivial,trivial⟩
 ·by_cases b : s2 ≥ 0
  ·simp only [if_neg a,if_pos b,decide_eq_true b,spec_l04Distance.j0,impl_gap.j0,if_true]
   exact ⟨trivial,trivial⟩
  ·simp only [if_neg a,if_neg b,decide_eq_false b,spec_l04Distance.j0,impl_gap.j0,Bool.false_eq_true,if_false]
   exact hr k (by omega)
theorem dists_eq (a b : List S30) (ha : a.length ≤ 1048576) (hb : b.length ≤ 1048576) {N : Nat} (hN : 3037000500 ≤ N) : ∃ r : Int × Int,(∀ k,N + 1000 ≤ k → spec_PolygonDistance.f k a b = some r) ∧ (∀ k,N + 1000 ≤ k → impl_PolygonDistance.f k a b = some r):=by
 obtain ⟨x,h1,h2,hx⟩:=spec_valid_eq a ha
 obtain ⟨y,g1,g2,hy⟩:=spec_valid_eq b hb
 unfold spec_PolygonDistance.f impl_PolygonDistance.f
 cases x with
 | false =>
  refine ⟨(0,1),fun k hk => ?_,fun k hk => ?_⟩
  ·rw [h1 k (by omega)]
   rfl
  ·rw [h2 k (by omega)]
   rfl
 | true =>
  cases y with
  | false =>
   refine ⟨(0,1),fun k hk => ?_,fun k hk => ?_⟩
   ·rw [h1 k (by omega),g1 k (by omega)]
    rfl
   ·rw [h2 k (by omega),g2 k (by omega)]
    rfl
  | true =>
   obtain ⟨r,hr⟩:=dist_eq (hx.1 rfl) (hy.1 rfl) hN
   refine ⟨(r,0),fun k hk => ?_,fun k hk => ?_⟩
   ·rw [h1 k (by omega),g1 k (by omega),Option.bind_some,if_pos rfl,Option.bind_some,if_pos rfl,(hr k hk).1]
    rfl
   ·rw [h2 k (by omega),g2 k (by omega),Option.bind_some,if_pos rfl,Option.bind_some,if_pos rfl,(hr k hk).2]
    rfl
theorem FnExactPolygonDistance (l m : List S24) (hl : l.length ≤ maxLen) (hg : ∀ x ∈ l,(Lit.int .i64 x.f0).wf = true ∧ (Lit.int .i64 x.f1).wf = true) (hl2 : m.length ≤ maxLen) (hg2 : ∀ x ∈ m,(Lit.int .i64 x.f0).wf = true ∧ (Lit.int .i64 x.f1).wf = true) : ∃ k,laws_FnExactPolygonDistance.f k l m = some true:=by
 unfold maxLen at hl hl2
 by_cases hs : l.length ≤ 1048576
 ·by_cases hs2 : m.length ≤ 1048576 - l.length
  ·obtain ⟨N,hN⟩ : ∃ N : Nat,3037000500 ≤ N:=⟨_,Nat.le_refl _⟩
   obtain ⟨⟨r0,r1⟩,h1,h2⟩:=dists_eq (conv l) (conv m) (by rw [conv_length];exact hs) (by rw [conv_length];omega) hN
   have e1:=fun k (hk : l.length < k) => toPointS_eq l hs k hk
   have e2:=fun k (hk : l.length < k) => eqPointS_self (conv l) (by rw [conv_length];omega) k (by rw [conv_length];exact hk)
   have f1:=fun k (hk : m.length < k) => toPointS_eq m (by omega) k hk
   have f2:=fun k (hk : m.length < k) => eqPointS_self (conv m) (by rw [conv_length];omega) k (by rw [conv_length];exact hk)
   have q2 : ¬ (1048576 - (l.length : Int)) < 0:=by omega
   have s2 : laws_szPointS.f m (1048576 - (l.length : Int)) = some (1048576 - (l.length : Int) - m.length):=by
    unfold laws_szPointS.f
    rw [w64 (by omega) (by omega),if_neg (by omega)]
   have q3 : ¬ (1048576 - (l.length : Int) - m.length) < 0:=by omega
   refine ⟨N + 1000 + 1,?_⟩
   unfold laws_FnExactPolygonDistance.f
   simp (disch:=omega) only [sz_small,e1,e2,f1,f2,s2,h1,h2,Option.bind_some,q2,q3,if_true,if_false,bne_self_eq_false,Bool.false_eq_true,laws_FnExactPolygonDistance.j0]
  ·refine ⟨0,?_⟩
   have s2 : laws_szPointS.f m (1048576 - (l.length : Int)) = some (-1):=by
    unfold laws_szPointS.f
    rw [w64 (by omega) (by omega),if_pos (by omega)]
   unfold laws_FnExactPolygonDistance.f
   rw [sz_small l hs,Option.bind_some,if_neg (by omega),s2]
   rfl
 ·refine ⟨0,?_⟩
  unfold laws_FnExactPolygonDistance.f
  rw [sz_large l hl (by omega)]
  rfl

end Go.Proofs.Ytkobmkdjmpnojaa.Pure
