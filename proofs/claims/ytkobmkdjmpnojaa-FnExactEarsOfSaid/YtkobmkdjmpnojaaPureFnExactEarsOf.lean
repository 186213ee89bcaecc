/- The plain law: what FnExactEarsOf computes is true at every input. -/
import Derived.Test.YtkobmkdjmpnojaaLFnExactEarsOfb
namespace Go.Proofs.Ytkobmkdjmpnojaa.Pure
open Go.RowKit Go.Proofs.Ytkobmkdjmpnojaa.PFnExactEarsOf Go.Proofs.YtkobmkdjmpnojaaW.PrintWords Go.Proofs.YtkobmkdjmpnojaaW.PrintLast Go.Proofs.YtkobmkdjmpnojaaW.PrintMore
set_option linter.unusedVariables false
set_option linter.unusedSimpArgs false

def inTriW (a0 a1 b0 b1 c0 c1 q0 q1 : Int) : Bool := decide (sideW a0 a1 b0 b1 q0 q1 ≥ 0) && (decide (sideW b0 b1 c0 c1 q0 q1 ≥ 0) && decide (sideW c0 c1 a0 a1 q0 q1 ≥ 0))
theorem inTri_fold (x y z : Int) : (some x).bind (fun t => if t ≥ 0 then (some y).bind fun t => if t ≥ 0 then (some z).bind fun t => some (decide (t ≥ 0)) else some false else some false) = some (decide (x ≥ 0) && (decide (y ≥ 0) && decide (z ≥ 0))) := by
  by_cases h1 : x ≥ 0
  · by_cases h2 : y ≥ 0
    · simp [h1, h2]
    · simp [h1, h2]
  · simp [h1]
theorem impl_inTriangle_eq (a0 a1 b0 b1 c0 c1 q0 q1 : Int) : impl_inTriangle.f a0 a1 b0 b1 c0 c1 q0 q1 = some (inTriW a0 a1 b0 b1 c0 c1 q0 q1) := by
  unfold impl_inTriangle.f inTriW
  simp only [impl_side_eq]
  exact inTri_fold _ _ _
theorem spec_l04In_eq (a0 a1 b0 b1 c0 c1 q0 q1 : Int) : spec_l04In.f a0 a1 b0 b1 c0 c1 q0 q1 = some (inTriW a0 a1 b0 b1 c0 c1 q0 q1) := by
  unfold spec_l04In.f inTriW
  simp only [spec_side_eq]
  exact inTri_fold _ _ _

theorem tmP {i n : Nat} (hn : n ≤ 1000000000) (hi : i < n) : Int.tmod (wrap64 (wrap64 ((i : Int) + (n : Int)) - 1)) (n : Int) = (((i + n - 1) % n : Nat) : Int) := by
  rw [w64 (x := (i : Int) + n) (by omega) (by omega), w64 (by omega) (by omega), Int.tmod_eq_emod_of_nonneg (by omega), Int.natCast_emod]
  congr 1
  omega
def triAt (p : List S30) (i j : Nat) : Bool := inTriW (p.getD ((i + p.length - 1) % p.length) z30).f0 (p.getD ((i + p.length - 1) % p.length) z30).f1 (p.getD i z30).f0 (p.getD i z30).f1 (p.getD ((i + 1) % p.length) z30).f0 (p.getD ((i + 1) % p.length) z30).f1 (p.getD j z30).f0 (p.getD j z30).f1
def sideAt (p : List S30) (i : Nat) : Int := sideW (p.getD ((i + p.length - 1) % p.length) z30).f0 (p.getD ((i + p.length - 1) % p.length) z30).f1 (p.getD i z30).f0 (p.getD i z30).f1 (p.getD ((i + 1) % p.length) z30).f0 (p.getD ((i + 1) % p.length) z30).f1
/-- The point i is an ear. -/
def IsEar (p : List S30) (i : Nat) : Prop := sideAt p i = 1 ∧ ∀ m, m < p.length → m ≠ i → m ≠ (i + p.length - 1) % p.length → m ≠ (i + 1) % p.length → triAt p i m = false
theorem ear_loops (p : List S30) (hn : p.length ≤ 1000000000) (i : Nat) (hi : i < p.length) : ∀ (d j : Nat), p.length - j ≤ d → ∃ b : Bool,
    (∀ k, d < k → impl_ear.l0 k i (p.length : Int) p (p.length : Int) j (p.getD ((i + p.length - 1) % p.length) z30).f0 (p.getD ((i + p.length - 1) % p.length) z30).f1 (p.getD i z30).f0 (p.getD i z30).f1 (p.getD ((i + 1) % p.length) z30).f0 (p.getD ((i + 1) % p.length) z30).f1 = some b ∧
      spec_l04Ear.l0 k p i (p.length : Int) j (p.getD ((i + p.length - 1) % p.length) z30).f0 (p.getD ((i + p.length - 1) % p.length) z30).f1 (p.getD i z30).f0 (p.getD i z30).f1 (p.getD ((i + 1) % p.length) z30).f0 (p.getD ((i + 1) % p.length) z30).f1 = some b) ∧
    (b = true ↔ ∀ m, j ≤ m → m < p.length → m ≠ i → m ≠ (i + p.length - 1) % p.length → m ≠ (i + 1) % p.length → triAt p i m = false) := by
  intro d
  have fin : ∀ j, ¬ j < p.length → ∃ b : Bool, (∀ k, 0 < k → impl_ear.l0 k i (p.length : Int) p (p.length : Int) j (p.getD ((i + p.length - 1) % p.length) z30).f0 (p.getD ((i + p.length - 1) % p.length) z30).f1 (p.getD i z30).f0 (p.getD i z30).f1 (p.getD ((i + 1) % p.length) z30).f0 (p.getD ((i + 1) % p.length) z30).f1 = some b ∧
      spec_l04Ear.l0 k p i (p.length : Int) j (p.getD ((i + p.length - 1) % p.length) z30).f0 (p.getD ((i + p.length - 1) % p.length) z30).f1 (p.getD i z30).f0 (p.getD i z30).f1 (p.getD ((i + 1) % p.length) z30).f0 (p.getD ((i + 1) % p.length) z30).f1 = some b) ∧
      (b = true ↔ ∀ m, j ≤ m → m < p.length → m ≠ i → m ≠ (i + p.length - 1) % p.length → m ≠ (i + 1) % p.length → triAt p i m = false) := by
    intro j hj
    refine ⟨true, fun k hk => ?_, ⟨fun _ m h1 h2 => absurd h2 (by omega), fun _ => rfl⟩⟩
    obtain ⟨k, rfl⟩ : ∃ m, k = m + 1 := ⟨k - 1, by omega⟩
    simp only [impl_ear.l0, spec_l04Ear.l0]
    rw [if_neg (by omega), if_neg (by omega)]
    exact ⟨rfl, rfl⟩
  induction d with
  | zero =>
    intro j hj
    obtain ⟨b, h1, h2⟩ := fin j (by omega)
    exact ⟨b, fun k hk => h1 k (by omega), h2⟩
  | succ d ih =>
    intro j hj
    by_cases hlt : j < p.length
    · obtain ⟨b, h1, h2⟩ := ih (j + 1) (by omega)
      by_cases c1 : j = i ∨ j = (i + p.length - 1) % p.length ∨ j = (i + 1) % p.length
      · refine ⟨b, fun k hk => ?_, h2.trans ⟨fun h m a1 a2 a3 a4 a5 => ?_, fun h m a1 a2 a3 a4 a5 => h m (by omega) a2 a3 a4 a5⟩⟩
        · obtain ⟨k, rfl⟩ : ∃ m, k = m + 1 := ⟨k - 1, by omega⟩
          have := h1 k (by omega)
          simp only [impl_ear.l0, spec_l04Ear.l0]
          rw [tmP hn hi, tm1 (by omega) hi, w1 (by omega)]
          have e1 : (j : Int) < (p.length : Int) := by omega
          have e2 : (0 : Int) ≤ (j : Int) := by omega
          have e3 : ¬ (p.length : Int) = 0 := by omega
          simp only [if_pos e1, if_pos e2, if_neg e3]
          by_cases a1 : (j : Int) = (i : Int)
          · simp only [if_pos a1]
            exact this
          · by_cases a2 : (j : Int) = (((i + p.length - 1) % p.length : Nat) : Int)
            · simp only [if_neg a1, if_pos a2]
              exact this
            · have a3 : (j : Int) = (((i + 1) % p.length : Nat) : Int) := by omega
              simp only [if_neg a1, if_neg a2, if_pos a3]
              exact this
        · by_cases e : m = j
          · exfalso
            rw [← e] at c1
            rcases c1 with c | c | c
            · exact a3 c
            · exact a4 c
            · exact a5 c
          · exact h m (by omega) a2 a3 a4 a5
      · have c2 : j ≠ i ∧ j ≠ (i + p.length - 1) % p.length ∧ j ≠ (i + 1) % p.length := ⟨fun h => c1 (.inl h), fun h => c1 (.inr (.inl h)), fun h => c1 (.inr (.inr h))⟩
        clear c1
        refine ⟨if triAt p i j = true then false else b, fun k hk => ?_, ?_⟩
        · obtain ⟨k, rfl⟩ : ∃ m, k = m + 1 := ⟨k - 1, by omega⟩
          have := h1 k (by omega)
          simp only [impl_ear.l0, spec_l04Ear.l0]
          rw [tmP hn hi, tm1 (by omega) hi, w1 (by omega), rdN]
          have e1 : (j : Int) < (p.length : Int) := by omega
          have e2 : (0 : Int) ≤ (j : Int) := by omega
          have e3 : ¬ (p.length : Int) = 0 := by omega
          have a1 : ¬ (j : Int) = (i : Int) := by omega
          have a2 : ¬ (j : Int) = (((i + p.length - 1) % p.length : Nat) : Int) := by omega
          have a3 : ¬ (j : Int) = (((i + 1) % p.length : Nat) : Int) := by omega
          simp only [if_pos e1, if_pos e2, if_neg e3, if_neg a1, if_neg a2, if_neg a3]
          rw [impl_inTriangle_eq, spec_l04In_eq, this.1, this.2]
          unfold triAt
          simp only [Option.bind_some]
          constructor <;> split <;> rfl
        · cases ht : triAt p i j with
          | true =>
            simp only [if_true]
            exact ⟨fun h => (by cases h), fun h => by rw [h j (Nat.le_refl _) hlt c2.1 c2.2.1 c2.2.2] at ht; cases ht⟩
          | false =>
            simp only [Bool.false_eq_true, if_false]
            rw [h2]
            refine ⟨fun h m a1 a2 a3 a4 a5 => ?_, fun h m a1 a2 a3 a4 a5 => h m (by omega) a2 a3 a4 a5⟩
            by_cases e : m = j
            · rw [e]; exact ht
            · exact h m (by omega) a2 a3 a4 a5
    · obtain ⟨b, h1, h2⟩ := fin j hlt
      exact ⟨b, fun k hk => h1 k (by omega), h2⟩
theorem ear_eq (p : List S30) (hn : p.length ≤ 1000000000) (i : Nat) (hi : i < p.length) : ∃ b : Bool, (∀ k, p.length < k → impl_ear.f k p i = some b ∧ spec_l04Ear.f k p i = some b) ∧ (b = true ↔ IsEar p i) := by
  obtain ⟨b, h1, h2⟩ := ear_loops p hn i hi p.length 0 (by omega)
  have m1 := Nat.mod_lt (i + 1) (show 0 < p.length by omega)
  have m2 := Nat.mod_lt (i + p.length - 1) (show 0 < p.length by omega)
  refine ⟨decide (sideAt p i = 1) && b, fun k hk => ?_, ?_⟩
  · have := h1 k hk
    simp only [Int.natCast_zero] at this
    unfold impl_ear.f spec_l04Ear.f
    rw [tmP hn hi, tm1 (by omega) hi, if_neg (by omega), if_pos (by omega), if_pos (by omega), if_pos (by omega), if_pos (by omega), if_pos (by omega), if_pos (by omega), if_neg (by omega), if_pos (by omega), if_pos (by omega), if_pos (by omega), if_pos (by omega), if_pos (by omega), if_pos (by omega), rdN, rdN, rdN, impl_side_eq, spec_side_eq, this.1, this.2]
    unfold sideAt
    simp only [Option.bind_some]
    generalize sideW (p.getD ((i + p.length - 1) % p.length) z30).f0 (p.getD ((i + p.length - 1) % p.length) z30).f1 (p.getD i z30).f0 (p.getD i z30).f1 (p.getD ((i + 1) % p.length) z30).f0 (p.getD ((i + 1) % p.length) z30).f1 = s
    by_cases hs : s = 1
    · rw [if_pos hs, decide_eq_true hs]
      exact ⟨rfl, rfl⟩
    · rw [if_neg hs, decide_eq_false hs]
      exact ⟨rfl, rfl⟩
  · rw [Bool.and_eq_true, decide_eq_true_eq, h2]
    exact ⟨fun h => ⟨h.1, fun m a => h.2 m (by omega) a⟩, fun h => ⟨h.1, fun m _ a => h.2 m a⟩⟩

/-- The law's points as the program's. -/
def conv (l : List S24) : List S30 := l.map fun s => ⟨s.f0, s.f1⟩
theorem conv_length (l : List S24) : (conv l).length = l.length := by
  unfold conv
  rw [List.length_map]
theorem sz_small (l : List S24) (h : l.length ≤ 1048576) : laws_szPointS.f l 1048576 = some (1048576 - (l.length : Int)) := by
  unfold laws_szPointS.f
  rw [w64 (by omega) (by omega), if_neg (by omega)]
theorem sz_large (l : List S24) (hm : l.length ≤ 9223372036854775807) (h : 1048576 < l.length) : laws_szPointS.f l 1048576 = some (-1) := by
  unfold laws_szPointS.f
  rw [w64 (by omega) (by omega), if_pos (by omega)]
theorem rdLN (l : List S24) (j : Nat) : rd_T24 l (j : Int) = l.getD j z24 := by
  unfold rd_T24
  rw [Int.toNat_natCast]
theorem toPointS_loop (l : List S24) (h : l.length ≤ 1048576) : ∀ (d k i : Nat) (x : List S30), i ≤ l.length → l.length - i ≤ d → d < k → x.length = l.length → laws_toPointS.l0 k l x i = some (x.take i ++ (conv l).drop i)
  | d, 0, i, x, _, _, h2, _ => absurd h2 (by omega)
  | d, k + 1, i, x, h0, h1, h2, hx => by
    simp only [laws_toPointS.l0, laws_toPoint.f]
    by_cases hi : i < l.length
    · rw [if_pos (by omega), if_pos (by omega), Option.bind_some, if_pos (by omega), w1 (by omega), toPointS_loop l h (d - 1) k (i + 1) _ (by omega) (by omega) (by omega) (by rw [List.length_set, hx]), rdLN]
      have e : l.getD i z24 = l[i] := by
        rw [List.getD_eq_getElem?_getD, List.getElem?_eq_getElem hi]
        rfl
      rw [e, Int.toNat_natCast, List.take_succ_eq_append_getElem (by rw [List.length_set, hx]; exact hi), List.getElem_set_self, List.take_set_of_le (Nat.le_refl _), List.append_assoc]
      congr 2
      rw [List.drop_eq_getElem_cons (i := i) (by rw [conv_length]; exact hi)]
      unfold conv
      rw [List.getElem_map]
      rfl
    · rw [if_neg (by omega), List.take_of_length_le (by omega), List.drop_eq_nil_of_le (by rw [conv_length]; omega), List.append_nil]
theorem toPointS_eq (l : List S24) (h : l.length ≤ 1048576) (k : Nat) (hk : l.length < k) : laws_toPointS.f k l = some (conv l) := by
  unfold laws_toPointS.f
  rw [if_pos (by omega), if_pos (by omega)]
  have := toPointS_loop l h l.length k 0 (List.replicate ((l.length : Int) : Int).toNat z30) (by omega) (by omega) hk (by rw [List.length_replicate, Int.toNat_natCast])
  simp only [Int.natCast_zero] at this
  rw [this, List.take_zero, List.nil_append, List.drop_zero]
theorem eqPoint_self (x y : Int) : laws_eqPoint.f x y x y = some true := by
  unfold laws_eqPoint.f
  rw [if_pos rfl, if_pos rfl]
theorem eqPointS_loop (l : List S30) (h : l.length ≤ 1000000000) : ∀ (d k i : Nat), l.length - i ≤ d → d < k → laws_eqPointS.l0 k l l i = some true
  | d, 0, i, _, h2 => absurd h2 (by omega)
  | d, k + 1, i, h1, h2 => by
    simp only [laws_eqPointS.l0]
    by_cases hi : i < l.length
    · rw [if_pos (by omega), if_pos (by omega), if_pos (by omega), eqPoint_self, Option.bind_some, if_pos rfl, w1 (by omega)]
      exact eqPointS_loop l h (d - 1) k (i + 1) (by omega) (by omega)
    · rw [if_neg (by omega)]
theorem eqPointS_self (l : List S30) (h : l.length ≤ 1000000000) (k : Nat) (hk : l.length < k) : laws_eqPointS.f k l l = some true := by
  unfold laws_eqPointS.f
  rw [if_pos rfl]
  exact eqPointS_loop l h l.length k 0 (by omega) hk

theorem back_eq (l : List S24) (h : l.length ≤ 1048576) (k : Nat) (hk : l.length < k) : ((laws_toPointS.f k l).bind fun t => (laws_eqPointS.f k (conv l) t).bind fun b => if b = true then some true else some false) = some true := by
  rw [toPointS_eq l h k hk, Option.bind_some, eqPointS_self (conv l) (by rw [conv_length]; omega) k (by rw [conv_length]; omega)]
  rfl

theorem p_ext {x y : S30} (h0 : x.f0 = y.f0) (h1 : x.f1 = y.f1) : x = y := by
  cases x
  cases y
  simp_all
theorem getD_set_self (x : List S30) (i : Nat) (v : S30) (h : i < x.length) : (x.set i v).getD i z30 = v := by
  rw [List.getD_eq_getElem?_getD, List.getElem?_set_self h]
  rfl
theorem getD_set_ne (x : List S30) (i j : Nat) (v : S30) (h : i ≠ j) : (x.set i v).getD j z30 = x.getD j z30 := by
  rw [List.getD_eq_getElem?_getD, List.getElem?_set_ne h, List.getD_eq_getElem?_getD]
theorem mark_loop (n : Nat) (hn : n ≤ 1000000000) : ∀ (d k i : Nat) (x : List S30), x.length = n → i ≤ n → n - i ≤ d → d < k → (∀ j, j < i → x.getD j z30 = ⟨1 + 2 * (j : Int), 1 + 2 * (j : Int) + 1⟩) →
    ∃ m : List S30, laws_markPointS.l0 k x (1 + 2 * (i : Int)) i = some (1 + 2 * (n : Int), m) ∧ m.length = n ∧ ∀ j, j < n → m.getD j z30 = ⟨1 + 2 * (j : Int), 1 + 2 * (j : Int) + 1⟩
  | d, 0, i, x, _, _, _, h, _ => absurd h (by omega)
  | d, k + 1, i, x, hx, hi, h1, h2, hm => by
    simp only [laws_markPointS.l0]
    by_cases hlt : i < n
    · rw [if_pos (by omega), if_pos (by omega), Option.bind_some, Int.toNat_natCast, rdN, rdN, getD_set_self x i _ (by omega), w1 (by omega), w64 (x := 1 + 2 * (i : Int) + 1) (by omega) (by omega), w64 (x := 1 + 2 * (i : Int) + 1 + 1) (by omega) (by omega)]
      have := mark_loop n hn (d - 1) k (i + 1) ((x.set i ⟨1 + 2 * (i : Int), (x.getD i z30).f1⟩).set i ⟨1 + 2 * (i : Int), 1 + 2 * (i : Int) + 1⟩) (by simp [hx]) (by omega) (by omega) (by omega) (fun j hj => by
        by_cases e : i = j
        · subst e
          rw [getD_set_self _ _ _ (by simp; omega)]
        · rw [getD_set_ne _ _ _ _ e, getD_set_ne _ _ _ _ e]
          exact hm j (by omega))
      rw [show (1 + 2 * (i : Int) + 1 + 1) = 1 + 2 * ((i + 1 : Nat) : Int) by omega]
      exact this
    · have e : i = n := by omega
      subst e
      exact ⟨x, by rw [if_neg (by omega)], hx, hm⟩
theorem marked (x : List S30) (hn : x.length ≤ 1000000000) : ∃ (n : Int) (m : List S30), 0 < n ∧ (∀ k, x.length < k → laws_markPointS.f k x 1 = some (n, m)) := by
  obtain ⟨m, h1, h2, h3⟩ := mark_loop x.length hn x.length (x.length + 1) 0 x rfl (by omega) (by omega) (by omega) (fun j hj => absurd hj (by omega))
  refine ⟨1 + 2 * (x.length : Int), m, by omega, fun k hk => ?_⟩
  unfold laws_markPointS.f
  exact at_rounds (fun k => laws_markPointS.mono_l k _ _ _) (show x.length + 1 ≤ k by omega) h1

theorem rd_nat (x : List Int) (j : Nat) : rd x (j : Int) = x.getD j 0 := by
  unfold rd
  rw [Int.toNat_natCast]
theorem w1' {i : Nat} (hi : i ≤ 4611686018427387904) : wrap64 ((i : Int) + 1) = ((i + 1 : Nat) : Int) := by
  rw [w64 (by omega) (by omega)]
  omega
theorem eqInt64S_loop (l : List Int) (h : l.length ≤ 1000000000) : ∀ (d k i : Nat), l.length - i ≤ d → d < k → laws_eqInt64S.l0 k l l i = some true
  | d, 0, i, _, h2 => absurd h2 (by omega)
  | d, k + 1, i, h1, h2 => by
    simp only [laws_eqInt64S.l0]
    by_cases hi : i < l.length
    · rw [if_pos (by omega), if_pos (by omega), if_pos (by omega), if_pos trivial, w1' (by omega)]
      exact eqInt64S_loop l h (d - 1) k (i + 1) (by omega) (by omega)
    · rw [if_neg (by omega)]
theorem eqInt64S_self (l : List Int) (h : l.length ≤ 1000000000) (k : Nat) (hk : l.length < k) : laws_eqInt64S.f k l l = some true := by
  unfold laws_eqInt64S.f
  rw [if_pos rfl]
  exact eqInt64S_loop l h l.length k 0 (by omega) hk

theorem getI_set_self (x : List Int) (i : Nat) (v : Int) (h : i < x.length) : (x.set i v).getD i 0 = v := by
  rw [List.getD_eq_getElem?_getD, List.getElem?_set_self h]
  rfl
theorem getI_set_ne (x : List Int) (i j : Nat) (v : Int) (h : i ≠ j) : (x.set i v).getD j 0 = x.getD j 0 := by
  rw [List.getD_eq_getElem?_getD, List.getElem?_set_ne h, List.getD_eq_getElem?_getD]
theorem imark_loop (n : Nat) (hn : n ≤ 1000000000) (a : Int) (ha : 0 ≤ a ∧ a ≤ 1000000000000) : ∀ (d k i : Nat) (x : List Int), x.length = n → i ≤ n → n - i ≤ d → d < k → (∀ j, j < i → x.getD j 0 = a + j) →
    ∃ m : List Int, laws_markInt64S.l0 k x (a + i) i = some (a + (n : Int), m) ∧ m.length = n ∧ ∀ j, j < n → m.getD j 0 = a + j
  | d, 0, i, x, _, _, _, h, _ => absurd h (by omega)
  | d, k + 1, i, x, hx, hi, h1, h2, hm => by
    simp only [laws_markInt64S.l0]
    by_cases hlt : i < n
    · rw [if_pos (by omega), if_pos (by omega), Int.toNat_natCast, w1' (by omega), w64 (x := a + (i : Int) + 1) (by omega) (by omega), show (a + (i : Int) + 1) = a + ((i + 1 : Nat) : Int) by omega]
      exact imark_loop n hn a ha (d - 1) k (i + 1) (x.set i (a + i)) (by simp [hx]) (by omega) (by omega) (by omega) (fun j hj => by
        by_cases e : i = j
        · subst e
          rw [getI_set_self _ _ _ (by omega)]
        · rw [getI_set_ne _ _ _ _ e]
          exact hm j (by omega))
    · have e : i = n := by omega
      subst e
      exact ⟨x, by rw [if_neg (by omega)], hx, hm⟩
theorem iheld_loop (n : Nat) (hn : n ≤ 1000000000) (a : Int) (ha : 0 ≤ a ∧ a ≤ 1000000000000) (m : List Int) (hl : m.length = n) (hm : ∀ j, j < n → m.getD j 0 = a + j) : ∀ (d k i : Nat), i ≤ n → n - i ≤ d → d < k → laws_heldInt64S.l0 k m (a + i) i = some (a + n)
  | d, 0, i, _, _, h => absurd h (by omega)
  | d, k + 1, i, hi, h1, h2 => by
    simp only [laws_heldInt64S.l0]
    by_cases hlt : i < n
    · rw [if_pos (by omega), if_pos (by omega), rd_nat, hm i hlt, if_pos rfl, w1' (by omega), w64 (x := a + (i : Int) + 1) (by omega) (by omega), show (a + (i : Int) + 1) = a + ((i + 1 : Nat) : Int) by omega]
      exact iheld_loop n hn a ha m hl hm (d - 1) k (i + 1) (by omega) (by omega) (by omega)
    · rw [if_neg (by omega), show i = n by omega]
/-- What is marked is held. -/
theorem imark_held_at (x : List Int) (hn : x.length ≤ 1000000000) (a : Int) (ha : 0 ≤ a ∧ a ≤ 1000000000000) : ∃ m : List Int, m.length = x.length ∧ (∀ k, x.length < k → laws_markInt64S.f k x a = some (a + x.length, m)) ∧ (∀ k, x.length < k → laws_heldInt64S.f k m a = some (a + x.length)) := by
  have h0 := fun k (hk : x.length < k) => imark_loop x.length hn a ha x.length k 0 x rfl (by omega) (by omega) hk (fun j hj => absurd hj (by omega))
  obtain ⟨m, h1, h2, h3⟩ := h0 (x.length + 1) (by omega)
  simp only [Int.natCast_zero, Int.add_zero] at h1
  refine ⟨m, h2, fun k hk => ?_, fun k hk => ?_⟩
  · unfold laws_markInt64S.f
    exact at_rounds (fun k => laws_markInt64S.mono_l k _ _ _) (show x.length + 1 ≤ k by omega) h1
  · unfold laws_heldInt64S.f
    have := iheld_loop x.length hn a ha m h2 h3 x.length k 0 (by omega) (by omega) hk
    simp only [Int.natCast_zero, Int.add_zero] at this
    exact this
theorem imark_held (x : List Int) (hn : x.length ≤ 1000000000) : ∃ (n : Int) (m : List Int), 0 < n ∧ (∀ k, x.length < k → laws_markInt64S.f k x 1 = some (n, m)) ∧ (∀ k, x.length < k → laws_heldInt64S.f k m 1 = some n) := by
  obtain ⟨m, _, h1, h2⟩ := imark_held_at x hn 1 (by omega)
  exact ⟨1 + x.length, m, by omega, h1, h2⟩

theorem ears_loops (p : List S30) (hn : p.length ≤ 24) : ∀ (d i : Nat) (acc : List Int), i ≤ p.length → p.length - i ≤ d → acc.length ≤ i → ∃ l : List Int, l.length ≤ p.length ∧ ∀ k, d + p.length + 1 < k → spec_EarsOf.l0 k p acc i = some (l, 0) ∧ impl_EarsOf.l0 k p acc (p.length : Int) i = some (l, 0) := by
  intro d
  induction d with
  | zero =>
    intro i acc h0 hi ha
    refine ⟨acc, by omega, fun k hk => ?_⟩
    obtain ⟨k, rfl⟩ : ∃ m, k = m + 1 := ⟨k - 1, by omega⟩
    simp only [spec_EarsOf.l0, impl_EarsOf.l0]
    rw [if_neg (by omega), if_neg (by omega)]
    exact ⟨rfl, rfl⟩
  | succ d ih =>
    intro i acc h0 hi ha
    by_cases hlt : i < p.length
    · obtain ⟨b, hb, _⟩ := ear_eq p (by omega) i hlt
      obtain ⟨l, hl, hr⟩ := ih (i + 1) (if b = true then acc ++ [(i : Int)] else acc) (by omega) (by omega) (by cases b <;> simp <;> omega)
      refine ⟨l, hl, fun k hk => ?_⟩
      obtain ⟨k, rfl⟩ : ∃ m, k = m + 1 := ⟨k - 1, by omega⟩
      have h1 := hb k (by omega)
      have h2 := hr k (by omega)
      simp only [spec_EarsOf.l0, impl_EarsOf.l0]
      have e1 : (i : Int) < (p.length : Int) := by omega
      rw [h1.1, h1.2, w1 (by omega)]
      simp only [if_pos e1]
      simp only [Option.bind_some]
      have hacc : acc.length < 17592186044416 := by omega
      cases b with
      | true =>
        simp only [↓reduceIte] at h2
        simp only [↓reduceIte, hacc]
        exact h2
      | false =>
        simp only [Bool.false_eq_true, ↓reduceIte] at h2 ⊢
        exact h2
    · refine ⟨acc, by omega, fun k hk => ?_⟩
      obtain ⟨k, rfl⟩ : ∃ m, k = m + 1 := ⟨k - 1, by omega⟩
      simp only [spec_EarsOf.l0, impl_EarsOf.l0]
      rw [if_neg (by omega), if_neg (by omega)]
      exact ⟨rfl, rfl⟩
theorem earsOf_eq (p : List S30) (hl : p.length ≤ 1048576) : ∃ r : List Int × Int, r.1.length ≤ p.length ∧ (∀ k, 1000 ≤ k → spec_EarsOf.f k p = some r) ∧ (∀ k, 1000 ≤ k → impl_EarsOf.f k p = some r) := by
  obtain ⟨b, h1, h2, hv⟩ := spec_valid_eq p hl
  cases b with
  | false =>
    refine ⟨([], 1), by simp, fun k hk => ?_, fun k hk => ?_⟩
    · unfold spec_EarsOf.f
      rw [h1 k hk]
      rfl
    · unfold impl_EarsOf.f
      rw [h2 k hk]
      rfl
  | true =>
    have hn := (hv.1 rfl).2.1
    obtain ⟨l, hll, hr⟩ := ears_loops p hn p.length 0 [] (by omega) (by omega) (by simp)
    refine ⟨(l, 0), hll, fun k hk => ?_, fun k hk => ?_⟩
    · unfold spec_EarsOf.f
      rw [h1 k hk, Option.bind_some, if_pos rfl]
      exact (hr k (by omega)).1
    · unfold impl_EarsOf.f
      rw [h2 k hk, Option.bind_some, if_pos rfl]
      exact (hr k (by omega)).2
theorem FnExactEarsOf (l : List S24) (hl : l.length ≤ maxLen) (hg : ∀ x ∈ l, (Lit.int .i64 x.f0).wf = true ∧ (Lit.int .i64 x.f1).wf = true) : ∃ k, laws_FnExactEarsOf.f k l = some true := by
  unfold maxLen at hl
  by_cases hs : l.length ≤ 1048576
  · obtain ⟨⟨g0, g1⟩, hr, h1, h2⟩ := earsOf_eq (conv l) (by rw [conv_length]; exact hs)
    rw [conv_length] at hr
    have hr : g0.length ≤ l.length := hr
    obtain ⟨n0, m0, hn0, a1⟩ := marked (conv l) (by rw [conv_length]; omega)
    obtain ⟨n1, m1, hn1, b1, b2⟩ := imark_held g0 (by omega)
    rw [conv_length] at a1
    have e1 := fun k (hk : l.length < k) => toPointS_eq l hs k hk
    have e2 := fun k (hk : l.length < k) => eqPointS_self (conv l) (by rw [conv_length]; omega) k (by rw [conv_length]; exact hk)
    have e3 := fun k (hk : l.length < k) => eqInt64S_self g0 (by omega) k (by omega)
    have b1' := fun k (hk : l.length < k) => b1 k (by omega)
    have b2' := fun k (hk : l.length < k) => b2 k (by omega)
    have q0 : ¬ n0 < 0 := by omega
    have q1 : ¬ n1 < 0 := by omega
    have q2 : ¬ (1048576 - (l.length : Int)) < 0 := by omega
    obtain ⟨B, hB⟩ : ∃ B : Nat, 1048578 ≤ B := ⟨_, Nat.le_refl _⟩
    refine ⟨B + 3, ?_⟩
    unfold laws_FnExactEarsOf.f
    rw [sz_small l hs, Option.bind_some, if_neg q2, e1 (B + 3) (by omega), Option.bind_some]
    rw [h1 (B + 3) (by omega), Option.bind_some, Option.bind_some, h2 (B + 3) (by omega), Option.bind_some]
    try dsimp only
    rw [e3 (B + 3) (by omega), Option.bind_some, if_pos rfl]
    simp only [laws_FnExactEarsOf.j0, bne_self_eq_false, Bool.false_eq_true, if_false]
    rw [e1 (B + 2) (by omega), Option.bind_some, e2 (B + 2) (by omega), Option.bind_some, if_pos rfl, a1 (B + 2) (by omega), Option.bind_some]
    try dsimp only
    rw [if_neg q0, e3 (B + 2) (by omega), Option.bind_some, if_pos rfl]
    simp only [laws_FnExactEarsOf.j1, bne_self_eq_false, Bool.false_eq_true, if_false]
    rw [b1' (B + 1) (by omega), Option.bind_some]
    try dsimp only
    rw [b2' (B + 1) (by omega), Option.bind_some, if_neg q1, if_pos rfl, e1 (B + 1) (by omega), Option.bind_some, h2 (B + 1) (by omega), Option.bind_some]
    try dsimp only
    rw [e3 (B + 1) (by omega), Option.bind_some, if_pos rfl]
    simp only [laws_FnExactEarsOf.j2, bne_self_eq_false, Bool.false_eq_true, if_false]
    rw [b2' B (by omega), Option.bind_some, if_neg q1, if_pos rfl]
  · refine ⟨0, ?_⟩
    unfold laws_FnExactEarsOf.f
    rw [sz_large l hl (by omega)]
    rfl

end Go.Proofs.Ytkobmkdjmpnojaa.Pure
