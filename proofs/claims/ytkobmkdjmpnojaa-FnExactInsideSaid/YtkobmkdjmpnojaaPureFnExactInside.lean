/- The plain law: what FnExactInside computes is true at every input. -/
import Derived.Test.YtkobmkdjmpnojaaLFnExactInsideb
namespace Go.Proofs.Ytkobmkdjmpnojaa.Pure
open Go.RowKit Go.Proofs.Ytkobmkdjmpnojaa.PFnExactInside Go.Proofs.YtkobmkdjmpnojaaW.PrintWords Go.Proofs.YtkobmkdjmpnojaaW.PrintLast Go.Proofs.YtkobmkdjmpnojaaW.PrintMore
set_option linter.unusedVariables false
set_option linter.unusedSimpArgs false

/-- Whether an edge turns the answer. -/
def flip (a1 b1 q1 s : Int) : Bool := (decide (a1 ≤ q1) && (decide (q1 < b1) && decide (0 < s))) || (decide (b1 ≤ q1) && (decide (q1 < a1) && decide (s < 0)))
/-- One edge of a polygon at a point: on it, or whether it turns the answer. -/
def edgeOn (p : List S30) (q0 q1 : Int) (i : Nat) : Bool := onW (p.getD i z30).f0 (p.getD i z30).f1 (p.getD ((i + 1) % p.length) z30).f0 (p.getD ((i + 1) % p.length) z30).f1 q0 q1
def edgeFlip (p : List S30) (q0 q1 : Int) (i : Nat) : Bool := flip (p.getD i z30).f1 (p.getD ((i + 1) % p.length) z30).f1 q1 (sideW (p.getD i z30).f0 (p.getD i z30).f1 (p.getD ((i + 1) % p.length) z30).f0 (p.getD ((i + 1) % p.length) z30).f1 q0 q1)
theorem wneg1 : wrap64 (-1) = -1 := w64 (by omega) (by omega)
theorem wone : wrap64 1 = 1 := w64 (by omega) (by omega)
theorem wzero : wrap64 0 = 0 := w64 (by omega) (by omega)
theorem impl_inside_step (p : List S30) (hn : p.length ≤ 1000000000) (k i : Nat) (hi : i < p.length) (s q0 q1 : Int) : impl_inside.l0 (k + 1) p s p (p.length : Int) i q0 q1 =
    if edgeOn p q0 q1 i = true then some 0 else impl_inside.l0 k p (if edgeFlip p q0 q1 i = true then wrap64 (-s) else s) p (p.length : Int) ((i + 1 : Nat) : Int) q0 q1 := by
  have m1 := Nat.mod_lt (i + 1) (show 0 < p.length by omega)
  simp only [impl_inside.l0]
  rw [if_pos (by omega), if_pos (by omega), if_pos (by omega), if_neg (by omega), tm1 (by omega) hi, if_pos (by omega), if_pos (by omega), rdN, rdN]
  simp only [impl_on_eq, impl_side_eq, Option.bind_some, w1 (show i ≤ 4611686018427387904 by omega)]
  unfold edgeOn edgeFlip flip
  generalize onW (p.getD i z30).f0 (p.getD i z30).f1 (p.getD ((i + 1) % p.length) z30).f0 (p.getD ((i + 1) % p.length) z30).f1 q0 q1 = o
  have h3 := sideW_three (p.getD i z30).f0 (p.getD i z30).f1 (p.getD ((i + 1) % p.length) z30).f0 (p.getD ((i + 1) % p.length) z30).f1 q0 q1
  generalize sideW (p.getD i z30).f0 (p.getD i z30).f1 (p.getD ((i + 1) % p.length) z30).f0 (p.getD ((i + 1) % p.length) z30).f1 q0 q1 = sd at h3 ⊢
  generalize (p.getD i z30).f1 = a1
  generalize (p.getD ((i + 1) % p.length) z30).f1 = b1
  cases o with
  | true => rfl
  | false =>
    simp only [Bool.false_eq_true, if_false]
    by_cases ha : a1 ≤ q1
    · have ha' : ¬ a1 > q1 := by omega
      have ha2 : ¬ q1 < a1 := by omega
      by_cases hb : b1 ≤ q1
      · have hb' : ¬ b1 > q1 := by omega
        have hb2 : ¬ q1 < b1 := by omega
        simp [ha, ha', ha2, hb, hb', hb2]
      · have hb' : b1 > q1 := by omega
        have hb2 : q1 < b1 := by omega
        have hc : ¬ b1 < a1 := by omega
        rcases h3 with rfl | rfl | rfl <;> simp [ha, ha', ha2, hb, hb', hb2, hc]
    · have ha' : a1 > q1 := by omega
      have ha2 : q1 < a1 := by omega
      by_cases hb : b1 ≤ q1
      · have hb' : ¬ b1 > q1 := by omega
        have hb2 : ¬ q1 < b1 := by omega
        have hc : b1 < a1 := by omega
        rcases h3 with rfl | rfl | rfl <;> simp [ha, ha', ha2, hb, hb', hb2, hc, wneg1, wone, wzero]
      · have hb' : b1 > q1 := by omega
        have hb2 : q1 < b1 := by omega
        simp [ha, ha', ha2, hb, hb', hb2]
theorem impl_inside_ends (p : List S30) (hn : p.length ≤ 1000000000) (q0 q1 : Int) : ∀ (d i : Nat) (s : Int), p.length - i ≤ d → ∃ r, ∀ k, d < k → impl_inside.l0 k p s p (p.length : Int) i q0 q1 = some r := by
  intro d
  induction d with
  | zero =>
    intro i s hi
    refine ⟨s, fun k hk => ?_⟩
    obtain ⟨k, rfl⟩ : ∃ m, k = m + 1 := ⟨k - 1, by omega⟩
    simp only [impl_inside.l0]
    rw [if_neg (by omega)]
  | succ d ih =>
    intro i s hi
    by_cases hlt : i < p.length
    · obtain ⟨r, hr⟩ := ih (i + 1) (if edgeFlip p q0 q1 i = true then wrap64 (-s) else s) (by omega)
      refine ⟨if edgeOn p q0 q1 i = true then 0 else r, fun k hk => ?_⟩
      obtain ⟨k, rfl⟩ : ∃ m, k = m + 1 := ⟨k - 1, by omega⟩
      rw [impl_inside_step p hn k i hlt, hr k (by omega)]
      split <;> rfl
    · refine ⟨s, fun k hk => ?_⟩
      obtain ⟨k, rfl⟩ : ∃ m, k = m + 1 := ⟨k - 1, by omega⟩
      simp only [impl_inside.l0]
      rw [if_neg (by omega)]

theorem spec_inside_step (p : List S30) (hn : p.length ≤ 1000000000) (k i : Nat) (hi : i < p.length) (s q0 q1 : Int) : spec_l03Inside.l0 (k + 1) p s i q0 q1 =
    if edgeOn p q0 q1 i = true then some 0 else spec_l03Inside.l0 k p (if edgeFlip p q0 q1 i = true then wrap64 (-s) else s) ((i + 1 : Nat) : Int) q0 q1 := by
  have m1 := Nat.mod_lt (i + 1) (show 0 < p.length by omega)
  simp only [spec_l03Inside.l0]
  rw [if_pos (by omega), if_pos (by omega), if_neg (by omega), tm1 (by omega) hi, if_pos (by omega), if_pos (by omega), rdN, rdN]
  simp only [spec_on_eq, spec_side_eq, Option.bind_some, w1 (show i ≤ 4611686018427387904 by omega)]
  unfold edgeOn edgeFlip flip
  generalize onW (p.getD i z30).f0 (p.getD i z30).f1 (p.getD ((i + 1) % p.length) z30).f0 (p.getD ((i + 1) % p.length) z30).f1 q0 q1 = o
  have h3 := sideW_three (p.getD i z30).f0 (p.getD i z30).f1 (p.getD ((i + 1) % p.length) z30).f0 (p.getD ((i + 1) % p.length) z30).f1 q0 q1
  generalize sideW (p.getD i z30).f0 (p.getD i z30).f1 (p.getD ((i + 1) % p.length) z30).f0 (p.getD ((i + 1) % p.length) z30).f1 q0 q1 = sd at h3 ⊢
  generalize (p.getD i z30).f1 = a1
  generalize (p.getD ((i + 1) % p.length) z30).f1 = b1
  cases o with
  | true => rfl
  | false =>
    simp only [Bool.false_eq_true, if_false]
    by_cases ha : a1 ≤ q1
    · have ha' : ¬ a1 > q1 := by omega
      have ha2 : ¬ q1 < a1 := by omega
      by_cases hb : b1 ≤ q1
      · have hb' : ¬ b1 > q1 := by omega
        have hb2 : ¬ q1 < b1 := by omega
        simp [ha, ha', ha2, hb, hb', hb2]
      · have hb' : b1 > q1 := by omega
        have hb2 : q1 < b1 := by omega
        rcases h3 with rfl | rfl | rfl <;> simp [ha, ha', ha2, hb, hb', hb2]
    · have ha' : a1 > q1 := by omega
      have ha2 : q1 < a1 := by omega
      by_cases hb : b1 ≤ q1
      · have hb' : ¬ b1 > q1 := by omega
        have hb2 : ¬ q1 < b1 := by omega
        rcases h3 with rfl | rfl | rfl <;> simp [ha, ha', ha2, hb, hb', hb2]
      · have hb' : b1 > q1 := by omega
        have hb2 : q1 < b1 := by omega
        simp [ha, ha', ha2, hb, hb', hb2]
theorem inside_lock (p : List S30) (hn : p.length ≤ 1000000000) (q0 q1 : Int) : ∀ (k i : Nat) (s : Int), spec_l03Inside.l0 k p s i q0 q1 = impl_inside.l0 k p s p (p.length : Int) i q0 q1
  | 0, _, _ => rfl
  | k + 1, i, s => by
    by_cases hi : i < p.length
    · rw [spec_inside_step p hn k i hi, impl_inside_step p hn k i hi, inside_lock p hn q0 q1 k]
    · simp only [spec_l03Inside.l0, impl_inside.l0]
      rw [if_neg (by omega), if_neg (by omega)]
theorem inside_eq (p : List S30) (hn : p.length ≤ 1000000000) (q0 q1 : Int) : ∃ r, ∀ k, p.length < k → spec_l03Inside.f k p q0 q1 = some r ∧ impl_inside.f k p q0 q1 = some r := by
  obtain ⟨r, hr⟩ := impl_inside_ends p hn q0 q1 p.length 0 (-1) (by omega)
  refine ⟨r, fun k hk => ⟨?_, hr k hk⟩⟩
  unfold spec_l03Inside.f
  have := inside_lock p hn q0 q1 k 0 (-1)
  simp only [Int.natCast_zero] at this
  rw [this]
  exact hr k hk

/-- The law's points as the program's. -/
def conv (l : List S24) : List S30 := l.map fun s => ⟨s.f0, s.f1⟩
theorem conv_length (l : List S24) : (conv l).length = l.length := by
  unfold conv
  rw [List.length_map]
theorem sz_small (l : List S24) (h : l.length ≤ 1048576) : laws_szPointS.f l 1048576 = some (1048576 - (l.length : Int)) := by
  unfold laws_szPointS.f
  rw [w64 (by omega) (by omega), if_neg (by omega)]
theorem sz_large (l : List S24) (hm : l.length ≤ 9223372036854775807) (h : 1048576 < l.length) : laws_szPointS.f l 1048576 = some (-1) := by
  unfold laws_szPointS.f
  rw [w64 (by omega) (by omega), if_pos (by omega)]
theorem rdLN (l : List S24) (j : Nat) : rd_T24 l (j : Int) = l.getD j z24 := by
  unfold rd_T24
  rw [Int.toNat_natCast]
theorem toPointS_loop (l : List S24) (h : l.length ≤ 1048576) : ∀ (d k i : Nat) (x : List S30), i ≤ l.length → l.length - i ≤ d → d < k → x.length = l.length → laws_toPointS.l0 k l x i = some (x.take i ++ (conv l).drop i)
  | d, 0, i, x, _, _, h2, _ => absurd h2 (by omega)
  | d, k + 1, i, x, h0, h1, h2, hx => by
    simp only [laws_toPointS.l0, laws_toPoint.f]
    by_cases hi : i < l.length
    · rw [if_pos (by omega), if_pos (by omega), Option.bind_some, if_pos (by omega), w1 (by omega), toPointS_loop l h (d - 1) k (i + 1) _ (by omega) (by omega) (by omega) (by rw [List.length_set, hx]), rdLN]
      have e : l.getD i z24 = l[i] := by
        rw [List.getD_eq_getElem?_getD, List.getElem?_eq_getElem hi]
        rfl
      rw [e, Int.toNat_natCast, List.take_succ_eq_append_getElem (by rw [List.length_set, hx]; exact hi), List.getElem_set_self, List.take_set_of_le (Nat.le_refl _), List.append_assoc]
      congr 2
      rw [List.drop_eq_getElem_cons (i := i) (by rw [conv_length]; exact hi)]
      unfold conv
      rw [List.getElem_map]
      rfl
    · rw [if_neg (by omega), List.take_of_length_le (by omega), List.drop_eq_nil_of_le (by rw [conv_length]; omega), List.append_nil]
theorem toPointS_eq (l : List S24) (h : l.length ≤ 1048576) (k : Nat) (hk : l.length < k) : laws_toPointS.f k l = some (conv l) := by
  unfold laws_toPointS.f
  rw [if_pos (by omega), if_pos (by omega)]
  have := toPointS_loop l h l.length k 0 (List.replicate ((l.length : Int) : Int).toNat z30) (by omega) (by omega) hk (by rw [List.length_replicate, Int.toNat_natCast])
  simp only [Int.natCast_zero] at this
  rw [this, List.take_zero, List.nil_append, List.drop_zero]
theorem eqPoint_self (x y : Int) : laws_eqPoint.f x y x y = some true := by
  unfold laws_eqPoint.f
  rw [if_pos rfl, if_pos rfl]
theorem eqPointS_loop (l : List S30) (h : l.length ≤ 1000000000) : ∀ (d k i : Nat), l.length - i ≤ d → d < k → laws_eqPointS.l0 k l l i = some true
  | d, 0, i, _, h2 => absurd h2 (by omega)
  | d, k + 1, i, h1, h2 => by
    simp only [laws_eqPointS.l0]
    by_cases hi : i < l.length
    · rw [if_pos (by omega), if_pos (by omega), if_pos (by omega), eqPoint_self, Option.bind_some, if_pos rfl, w1 (by omega)]
      exact eqPointS_loop l h (d - 1) k (i + 1) (by omega) (by omega)
    · rw [if_neg (by omega)]
theorem eqPointS_self (l : List S30) (h : l.length ≤ 1000000000) (k : Nat) (hk : l.length < k) : laws_eqPointS.f k l l = some true := by
  unfold laws_eqPointS.f
  rw [if_pos rfl]
  exact eqPointS_loop l h l.length k 0 (by omega) hk

theorem back_eq (l : List S24) (h : l.length ≤ 1048576) (k : Nat) (hk : l.length < k) : ((laws_toPointS.f k l).bind fun t => (laws_eqPointS.f k (conv l) t).bind fun b => if b = true then some true else some false) = some true := by
  rw [toPointS_eq l h k hk, Option.bind_some, eqPointS_self (conv l) (by rw [conv_length]; omega) k (by rw [conv_length]; omega)]
  rfl

theorem insides_eq (p : List S30) (hl : p.length ≤ 1048576) (q0 q1 : Int) : ∃ r : Int × Int, (∀ k, 1000 ≤ k → spec_Inside.f k p q0 q1 = some r) ∧ (∀ k, 1000 ≤ k → impl_Inside.f k p q0 q1 = some r) := by
  obtain ⟨b, h1, h2, hv⟩ := spec_valid_eq p hl
  cases b with
  | false =>
    refine ⟨(0, 1), fun k hk => ?_, fun k hk => ?_⟩
    · unfold spec_Inside.f
      rw [h1 k hk]
      rfl
    · unfold impl_Inside.f
      rw [h2 k hk]
      rfl
  | true =>
    have hn := (hv.1 rfl).2.1
    obtain ⟨r, hr⟩ := inside_eq p (by omega) q0 q1
    refine ⟨if okP q0 q1 = true then (r, 0) else (0, 1), fun k hk => ?_, fun k hk => ?_⟩
    · unfold spec_Inside.f
      rw [h1 k hk, Option.bind_some, if_pos rfl, spec_l02Ok_eq, Option.bind_some, (hr k (by omega)).1]
      cases okP q0 q1 <;> rfl
    · unfold impl_Inside.f
      rw [h2 k hk, Option.bind_some, if_pos rfl, impl_ValidPoint_eq, Option.bind_some, (hr k (by omega)).2]
      cases okP q0 q1 <;> rfl
theorem FnExactInside (l : List S24) (q0 q1 : Int) (hl : l.length ≤ maxLen) (hg : ∀ x ∈ l, (Lit.int .i64 x.f0).wf = true ∧ (Lit.int .i64 x.f1).wf = true) (_ : (Lit.int .i64 q0).wf = true) (_ : (Lit.int .i64 q1).wf = true) : ∃ k, laws_FnExactInside.f k l q0 q1 = some true := by
  unfold maxLen at hl
  by_cases hs : l.length ≤ 1048576
  · obtain ⟨r, h1, h2⟩ := insides_eq (conv l) (by rw [conv_length]; exact hs) q0 q1
    refine ⟨l.length + 1001 + 1, ?_⟩
    unfold laws_FnExactInside.f laws_toPoint.f
    rw [sz_small l hs, Option.bind_some, if_neg (by omega), toPointS_eq l hs _ (by omega)]
    simp only [Option.bind_some]
    rw [h1 _ (by omega), h2 _ (by omega)]
    simp only [Option.bind_some, if_true, laws_FnExactInside.j0, bne_self_eq_false, Bool.false_eq_true, if_false]
    exact back_eq l hs _ (by omega)
  · refine ⟨0, ?_⟩
    unfold laws_FnExactInside.f
    rw [sz_large l hl (by omega)]
    rfl

end Go.Proofs.Ytkobmkdjmpnojaa.Pure
