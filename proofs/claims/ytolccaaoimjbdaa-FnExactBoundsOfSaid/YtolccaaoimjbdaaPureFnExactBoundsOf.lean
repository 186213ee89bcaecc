/- The plain law: what FnExactBoundsOf computes is true at every input. -/
import Derived.Test.YtolccaaoimjbdaaLFnExactBoundsOfb
namespace Go.Proofs.Ytolccaaoimjbdaa.Pure
open Go.RowKit Go.Proofs.Ytolccaaoimjbdaa.PFnExactBoundsOf Go.Proofs.YtolccaaoimjbdaaW.PrintWords Go.Proofs.YtolccaaoimjbdaaW.PrintLast Go.Proofs.YtolccaaoimjbdaaW.PrintMore
set_option linter.unusedVariables false
set_option linter.unusedSimpArgs false

/-- The law's points as the program's. -/
def conv (l : List S23) : List S25 := l.map fun s => ⟨s.f0, s.f1⟩
theorem conv_length (l : List S23) : (conv l).length = l.length := by
  unfold conv
  rw [List.length_map]
theorem sz_small (l : List S23) (h : l.length ≤ 1048576) : laws_szPointS.f l 1048576 = some (1048576 - (l.length : Int)) := by
  unfold laws_szPointS.f
  rw [w64 (by omega) (by omega), if_neg (by omega)]
theorem sz_large (l : List S23) (hm : l.length ≤ 9223372036854775807) (h : 1048576 < l.length) : laws_szPointS.f l 1048576 = some (-1) := by
  unfold laws_szPointS.f
  rw [w64 (by omega) (by omega), if_pos (by omega)]
theorem rdLN (l : List S23) (j : Nat) : rd_T23 l (j : Int) = l.getD j z23 := by
  unfold rd_T23
  rw [Int.toNat_natCast]
theorem toPointS_loop (l : List S23) (h : l.length ≤ 1048576) : ∀ (d k i : Nat) (x : List S25), i ≤ l.length → l.length - i ≤ d → d < k → x.length = l.length → laws_toPointS.l0 k l x i = some (x.take i ++ (conv l).drop i)
  | d, 0, i, x, _, _, h2, _ => absurd h2 (by omega)
  | d, k + 1, i, x, h0, h1, h2, hx => by
    simp only [laws_toPointS.l0, laws_toPoint.f]
    by_cases hi : i < l.length
    · rw [if_pos (by omega), if_pos (by omega), Option.bind_some, if_pos (by omega), w1 (by omega), toPointS_loop l h (d - 1) k (i + 1) _ (by omega) (by omega) (by omega) (by rw [List.length_set, hx]), rdLN]
      have e : l.getD i z23 = l[i] := by
        rw [List.getD_eq_getElem?_getD, List.getElem?_eq_getElem hi]
        rfl
      rw [e, Int.toNat_natCast, List.take_succ_eq_append_getElem (by rw [List.length_set, hx]; exact hi), List.getElem_set_self, List.take_set_of_le (Nat.le_refl _), List.append_assoc]
      congr 2
      rw [List.drop_eq_getElem_cons (i := i) (by rw [conv_length]; exact hi)]
      unfold conv
      rw [List.getElem_map]
      rfl
    · rw [if_neg (by omega), List.take_of_length_le (by omega), List.drop_eq_nil_of_le (by rw [conv_length]; omega), List.append_nil]
theorem toPointS_eq (l : List S23) (h : l.length ≤ 1048576) (k : Nat) (hk : l.length < k) : laws_toPointS.f k l = some (conv l) := by
  unfold laws_toPointS.f
  rw [if_pos (by omega), if_pos (by omega)]
  have := toPointS_loop l h l.length k 0 (List.replicate ((l.length : Int) : Int).toNat z25) (by omega) (by omega) hk (by rw [List.length_replicate, Int.toNat_natCast])
  simp only [Int.natCast_zero] at this
  rw [this, List.take_zero, List.nil_append, List.drop_zero]
theorem eqPoint_self (x y : Int) : laws_eqPoint.f x y x y = some true := by
  unfold laws_eqPoint.f
  rw [if_pos rfl, if_pos rfl]
theorem eqPointS_loop (l : List S25) (h : l.length ≤ 1000000000) : ∀ (d k i : Nat), l.length - i ≤ d → d < k → laws_eqPointS.l0 k l l i = some true
  | d, 0, i, _, h2 => absurd h2 (by omega)
  | d, k + 1, i, h1, h2 => by
    simp only [laws_eqPointS.l0]
    by_cases hi : i < l.length
    · rw [if_pos (by omega), if_pos (by omega), if_pos (by omega), eqPoint_self, Option.bind_some, if_pos rfl, w1 (by omega)]
      exact eqPointS_loop l h (d - 1) k (i + 1) (by omega) (by omega)
    · rw [if_neg (by omega)]
theorem eqPointS_self (l : List S25) (h : l.length ≤ 1000000000) (k : Nat) (hk : l.length < k) : laws_eqPointS.f k l l = some true := by
  unfold laws_eqPointS.f
  rw [if_pos rfl]
  exact eqPointS_loop l h l.length k 0 (by omega) hk

theorem back_eq (l : List S23) (h : l.length ≤ 1048576) (k : Nat) (hk : l.length < k) : ((laws_toPointS.f k l).bind fun t => (laws_eqPointS.f k (conv l) t).bind fun b => if b = true then some true else some false) = some true := by
  rw [toPointS_eq l h k hk, Option.bind_some, eqPointS_self (conv l) (by rw [conv_length]; omega) k (by rw [conv_length]; omega)]
  rfl

theorem impl_bounds_ends (p : List S25) (hn : p.length ≤ 1000000000) : ∀ (d i : Nat) (a b c e : Int), p.length - i ≤ d → ∃ r, ∀ k, d < k → impl_bounds.l0 k p (p.length : Int) i a b c e = some r := by
  intro d
  induction d with
  | zero =>
    intro i a b c e hi
    refine ⟨(a, b, c, e), fun k hk => ?_⟩
    obtain ⟨k, rfl⟩ : ∃ m, k = m + 1 := ⟨k - 1, by omega⟩
    simp only [impl_bounds.l0]
    rw [if_neg (by omega)]
  | succ d ih =>
    intro i a b c e hi
    by_cases hlt : i < p.length
    · obtain ⟨r, hr⟩ := ih (i + 1) (mn a ((p.getD i z25).f0)) (mn b ((p.getD i z25).f1)) (mx c ((p.getD i z25).f0)) (mx e ((p.getD i z25).f1)) (by omega)
      refine ⟨r, fun k hk => ?_⟩
      obtain ⟨k, rfl⟩ : ∃ m, k = m + 1 := ⟨k - 1, by omega⟩
      simp only [impl_bounds.l0]
      rw [if_pos (by omega), if_pos (by omega), if_pos (by omega), rdN, w1 (by omega)]
      exact hr k (by omega)
    · refine ⟨(a, b, c, e), fun k hk => ?_⟩
      obtain ⟨k, rfl⟩ : ∃ m, k = m + 1 := ⟨k - 1, by omega⟩
      simp only [impl_bounds.l0]
      rw [if_neg (by omega)]
theorem impl_bounds_one (p : List S25) (h0 : 0 < p.length) (k : Nat) : impl_bounds.f (k + 1) p = impl_bounds.l0 k p (p.length : Int) 1 (p.getD 0 z25).f0 (p.getD 0 z25).f1 (p.getD 0 z25).f0 (p.getD 0 z25).f1 := by
  unfold impl_bounds.f
  have e : rd_T25 p 0 = p.getD 0 z25 := rdN p 0
  rw [if_pos (by omega)]
  simp only [impl_bounds.l0]
  rw [if_pos (by omega), if_pos (by omega), if_pos (by omega), e, w64 (x := 0 + 1) (by omega) (by omega)]
  have q : ∀ x : Int, mn x x = x := fun x => by unfold mn; split <;> rfl
  have r : ∀ x : Int, mx x x = x := fun x => by unfold mx; split <;> rfl
  rw [q, q, r, r]
  rfl

theorem bounds_lock (p : List S25) (hn : p.length ≤ 1000000000) : ∀ (k : Nat) (i a b c e : Int), spec_l03Bounds.l0 k p i a b c e = impl_bounds.l0 k p (p.length : Int) i a b c e
  | 0, _, _, _, _, _ => rfl
  | k + 1, i, a, b, c, e => by
    simp only [spec_l03Bounds.l0, impl_bounds.l0, spec_min_eq, spec_max_eq, Option.bind_some, bounds_lock p hn k]
    by_cases hi : i < (p.length : Int)
    · simp only [hi, if_true]
    · simp only [hi, if_false]
theorem bounds_eq (p : List S25) (h0 : 0 < p.length) (hn : p.length ≤ 1000000000) : ∃ r, ∀ k, p.length + 1 < k → spec_l03Bounds.f k p = some r ∧ impl_bounds.f k p = some r := by
  obtain ⟨r, hr⟩ := impl_bounds_ends p hn p.length 1 (p.getD 0 z25).f0 (p.getD 0 z25).f1 (p.getD 0 z25).f0 (p.getD 0 z25).f1 (by omega)
  refine ⟨r, fun k hk => ⟨?_, ?_⟩⟩
  · unfold spec_l03Bounds.f
    have e : rd_T25 p 0 = p.getD 0 z25 := rdN p 0
    rw [if_pos (by omega), bounds_lock p hn, e]
    exact hr k (by omega)
  · obtain ⟨k, rfl⟩ : ∃ m, k = m + 1 := ⟨k - 1, by omega⟩
    rw [impl_bounds_one p h0]
    exact hr k (by omega)

theorem boundsOf_eq (p : List S25) (hl : p.length ≤ 1048576) : ∃ r, (∀ k, 1000 ≤ k → spec_BoundsOf.f k p = some r) ∧ (∀ k, 1000 ≤ k → impl_BoundsOf.f k p = some r) := by
  obtain ⟨b, h1, h2, hv⟩ := spec_valid_eq p hl
  cases b with
  | false =>
    refine ⟨(0, 0, 0, 0, 1), fun k hk => ?_, fun k hk => ?_⟩
    · unfold spec_BoundsOf.f
      rw [h1 k hk]
      rfl
    · unfold impl_BoundsOf.f
      rw [h2 k hk]
      rfl
  | true =>
    have hn := (hv.1 rfl).2.1
    have h3 := (hv.1 rfl).1
    obtain ⟨r, hr⟩ := bounds_eq p (by omega) (by omega)
    refine ⟨(r.1, r.2.1, r.2.2.1, r.2.2.2, 0), fun k hk => ?_, fun k hk => ?_⟩
    · unfold spec_BoundsOf.f
      rw [h1 k hk, Option.bind_some, if_pos rfl, (hr k (by omega)).1]
      rfl
    · unfold impl_BoundsOf.f
      rw [h2 k hk, Option.bind_some, if_pos rfl, (hr k (by omega)).2]
      rfl
theorem FnExactBoundsOf (l : List S23) (hl : l.length ≤ maxLen) (hg : ∀ x ∈ l, (Lit.int .i64 x.f0).wf = true ∧ (Lit.int .i64 x.f1).wf = true) : ∃ k, laws_FnExactBoundsOf.f k l = some true := by
  unfold maxLen at hl
  by_cases hs : l.length ≤ 1048576
  · obtain ⟨r, h1, h2⟩ := boundsOf_eq (conv l) (by rw [conv_length]; exact hs)
    refine ⟨l.length + 1001 + 1, ?_⟩
    unfold laws_FnExactBoundsOf.f
    rw [sz_small l hs, Option.bind_some, if_neg (by omega), toPointS_eq l hs _ (by omega), Option.bind_some, h1 _ (by omega), Option.bind_some, Option.bind_some, h2 _ (by omega), Option.bind_some]
    simp only [eqPoint_self, Option.bind_some, if_true, laws_FnExactBoundsOf.j0, bne_self_eq_false, Bool.false_eq_true, if_false]
    exact back_eq l hs _ (by omega)
  · refine ⟨0, ?_⟩
    unfold laws_FnExactBoundsOf.f
    rw [sz_large l hl (by omega)]
    rfl

end Go.Proofs.Ytolccaaoimjbdaa.Pure
