/- The plain law: what FnExactSamePolygon computes is true at every input. -/
import Derived.Test.YtkobmkdjmpnojaaLFnExactSamePolygonb
namespace Go.Proofs.Ytkobmkdjmpnojaa.Pure
open Go.RowKit Go.Proofs.Ytkobmkdjmpnojaa.PFnExactSamePolygon Go.Proofs.YtkobmkdjmpnojaaW.PrintWords Go.Proofs.YtkobmkdjmpnojaaW.PrintLast Go.Proofs.YtkobmkdjmpnojaaW.PrintMore
set_option linter.unusedVariables false
set_option linter.unusedSimpArgs false

theorem onW_start (a0 a1 b0 b1 : Int) (ha : 0 ≤ a0 ∧ a0 ≤ 20000 ∧ 0 ≤ a1 ∧ a1 ≤ 20000) (hb : 0 ≤ b0 ∧ b0 ≤ 20000 ∧ 0 ≤ b1 ∧ b1 ≤ 20000) : onW a0 a1 b0 b1 a0 a1 = true := by
  have e : sideW a0 a1 b0 b1 a0 a1 = 0 := by
    unfold sideW
    rw [Int.sub_self, Int.sub_self, w64 (x := 0) (by omega) (by omega), Int.mul_zero, Int.mul_zero, w64 (x := 0) (by omega) (by omega), Int.sub_self, w64 (x := 0) (by omega) (by omega)]
    rfl
  unfold onW
  rw [e]
  have h1 : mn a0 b0 ≤ a0 ∧ a0 ≤ mx a0 b0 := by
    unfold mn mx
    constructor <;> split <;> omega
  have h2 : mn a1 b1 ≤ a1 ∧ a1 ≤ mx a1 b1 := by
    unfold mn mx
    constructor <;> split <;> omega
  rw [decide_eq_true h1, decide_eq_true h2]
  rfl
theorem same2_true {a0 a1 b0 b1 : Int} (h0 : a0 = b0) (h1 : a1 = b1) : same2 a0 a1 b0 b1 = true := by
  unfold same2
  rw [h0, h1]
  simp
/-- The corners of a valid polygon are different. -/
theorem corners_differ {p : List S30} (hV : Valid p) : ∀ i j, i < j → j < p.length → ¬ ((p.getD i z30).f0 = (p.getD j z30).f0 ∧ (p.getD i z30).f1 = (p.getD j z30).f1) := by
  intro i j hij hj ⟨h0, h1⟩
  obtain ⟨h3, hn, hall, hgood, _⟩ := hV
  have hr := inR_of_all hall
  by_cases e : j = i + 1
  · have hb := (hgood i (by omega)).1
    unfold badAt at hb
    dsimp only at hb
    rw [Nat.mod_eq_of_lt (show i + 1 < p.length by omega)] at hb
    subst e
    rw [same2_true h0 h1] at hb
    cases hb
  · by_cases e2 : (j + 1) % p.length = i
    · have hb := (hgood j hj).1
      unfold badAt at hb
      dsimp only at hb
      rw [e2, same2_true h0.symm h1.symm] at hb
      cases hb
    · have hm := (hgood i (by omega)).2 j (by omega) hj e2
      unfold meets touchW at hm
      dsimp only at hm
      obtain ⟨a1, a2, a3, a4⟩ := hr i
      obtain ⟨b1, b2, b3, b4⟩ := hr ((i + 1) % p.length)
      have ho := onW_start (p.getD i z30).f0 (p.getD i z30).f1 (p.getD ((i + 1) % p.length) z30).f0 (p.getD ((i + 1) % p.length) z30).f1 ⟨a1, a2, a3, a4⟩ ⟨b1, b2, b3, b4⟩
      rw [← h0, ← h1, ho] at hm
      simp at hm

def eqP (x y : S30) : Bool := (x.f0 == y.f0) && (x.f1 == y.f1)
theorem eqP_iff (x y : S30) : eqP x y = true ↔ x.f0 = y.f0 ∧ x.f1 = y.f1 := by
  unfold eqP
  rw [Bool.and_eq_true, beq_iff_eq, beq_iff_eq]
theorem neP_eq (x y : S30) : (!(x.f0 == y.f0) || (!(x.f1 == y.f1))) = !eqP x y := by
  unfold eqP
  cases x.f0 == y.f0 <;> cases x.f1 == y.f1 <;> rfl
theorem spec_equal_loop (a c : List S30) (hl : a.length = c.length) (hn : a.length ≤ 1000000000) : ∀ (d i : Nat), a.length - i ≤ d → ∃ b : Bool, (∀ k, d < k → spec_l03Equal.l0 k a c i = some b) ∧ (b = true ↔ ∀ j, i ≤ j → j < a.length → eqP (a.getD j z30) (c.getD j z30) = true) := by
  intro d
  induction d with
  | zero =>
    intro i hi
    refine ⟨true, fun k hk => ?_, ⟨fun _ j h1 h2 => absurd h2 (by omega), fun _ => rfl⟩⟩
    obtain ⟨k, rfl⟩ : ∃ m, k = m + 1 := ⟨k - 1, by omega⟩
    simp only [spec_l03Equal.l0]
    rw [if_neg (by omega)]
  | succ d ih =>
    intro i hi
    by_cases hlt : i < a.length
    · obtain ⟨b, h1, h2⟩ := ih (i + 1) (by omega)
      refine ⟨eqP (a.getD i z30) (c.getD i z30) && b, fun k hk => ?_, ?_⟩
      · obtain ⟨k, rfl⟩ : ∃ m, k = m + 1 := ⟨k - 1, by omega⟩
        simp only [spec_l03Equal.l0]
        rw [if_pos (by omega), if_pos (by omega), if_pos (by omega), rdN, rdN, neP_eq, w1 (by omega), h1 k (by omega)]
        cases eqP (a.getD i z30) (c.getD i z30) <;> rfl
      · rw [Bool.and_eq_true, h2]
        refine ⟨fun h j a1 a2 => ?_, fun h => ⟨h i (Nat.le_refl _) hlt, fun j a1 a2 => h j (by omega) a2⟩⟩
        by_cases e : j = i
        · rw [e]; exact h.1
        · exact h.2 j (by omega) a2
    · refine ⟨true, fun k hk => ?_, ⟨fun _ j h1 h2 => absurd h2 (by omega), fun _ => rfl⟩⟩
      obtain ⟨k, rfl⟩ : ∃ m, k = m + 1 := ⟨k - 1, by omega⟩
      simp only [spec_l03Equal.l0]
      rw [if_neg (by omega)]
/-- A list that begins with another one. -/
def rot (b : List S30) (t : Nat) : List S30 := b.drop t ++ b.take t
theorem rot_length (b : List S30) (t : Nat) (h : t ≤ b.length) : (rot b t).length = b.length := by
  unfold rot
  rw [List.length_append, List.length_drop, List.length_take]
  omega
theorem rot_get (b : List S30) (t i : Nat) (h : t < b.length) (hi : i < b.length) : (rot b t).getD i z30 = b.getD ((t + i) % b.length) z30 := by
  unfold rot
  rw [List.getD_eq_getElem?_getD, List.getD_eq_getElem?_getD]
  congr 1
  by_cases hc : i < b.length - t
  · rw [List.getElem?_append_left (by rw [List.length_drop]; exact hc), List.getElem?_drop, Nat.mod_eq_of_lt (by omega)]
  · rw [List.getElem?_append_right (by rw [List.length_drop]; omega), List.length_drop, List.getElem?_take_of_lt (by omega), show (t + i) % b.length = i - (b.length - t) by rw [Nat.mod_eq_sub_mod (by omega), Nat.mod_eq_of_lt (by omega)]; omega]
theorem spec_from_eq (b : List S30) (t : Nat) (h : t ≤ b.length) (hn : b.length ≤ 1000000000) : spec_l03From.f b t = some (rot b t) := by
  unfold spec_l03From.f rot
  simp only [Option.bind_some, List.nil_append, List.length_nil, Int.toNat_natCast]
  rw [if_pos (by omega), if_pos (by omega), if_pos (by rw [List.length_drop]; omega), if_pos (by rw [List.length_drop, List.length_take]; omega)]
/-- a is b, begun with its point t. -/
def IsRot (a b : List S30) (t : Nat) : Prop := a.length = b.length ∧ ∀ i, i < b.length → eqP (a.getD i z30) (b.getD ((t + i) % b.length) z30) = true
theorem spec_equal_rot (a b : List S30) (t : Nat) (h : t < b.length) (hn : b.length ≤ 1000000000) (ha : a.length ≤ 1000000000) : ∃ c : Bool, (∀ k, a.length < k → spec_l03Equal.f k a (rot b t) = some c) ∧ (c = true ↔ IsRot a b t) := by
  by_cases hl : a.length = b.length
  · obtain ⟨c, h1, h2⟩ := spec_equal_loop a (rot b t) (by rw [rot_length b t (by omega)]; exact hl) ha a.length 0 (by omega)
    refine ⟨c, fun k hk => ?_, h2.trans ⟨fun q => ⟨hl, fun i hi => ?_⟩, fun q j _ hj => ?_⟩⟩
    · unfold spec_l03Equal.f
      rw [rot_length b t (by omega), if_pos (by omega)]
      exact h1 k hk
    · rw [← rot_get b t i h hi]
      exact q i (by omega) (by omega)
    · rw [rot_get b t j h (by omega)]
      exact q.2 j (by omega)
  · refine ⟨false, fun k hk => ?_, ⟨fun q => (by cases q), fun q => absurd q.1 hl⟩⟩
    unfold spec_l03Equal.f
    rw [rot_length b t (by omega), if_neg (by omega)]
theorem spec_around_loop (a b : List S30) (hn : b.length ≤ 1000000000) (ha : a.length ≤ 1000000000) : ∀ (d t : Nat), b.length - t ≤ d → ∃ c : Bool, (∀ k, d + a.length + 1 < k → spec_l03Around.l0 k a b t = some c) ∧ (c = true ↔ ∃ s, t ≤ s ∧ s < b.length ∧ IsRot a b s) := by
  intro d
  induction d with
  | zero =>
    intro t ht
    refine ⟨false, fun k hk => ?_, ⟨fun q => (by cases q), fun ⟨s, h1, h2, _⟩ => absurd h2 (by omega)⟩⟩
    obtain ⟨k, rfl⟩ : ∃ m, k = m + 1 := ⟨k - 1, by omega⟩
    simp only [spec_l03Around.l0]
    rw [if_neg (by omega)]
  | succ d ih =>
    intro t ht
    by_cases hlt : t < b.length
    · obtain ⟨c, h1, h2⟩ := ih (t + 1) (by omega)
      obtain ⟨e, g1, g2⟩ := spec_equal_rot a b t hlt hn ha
      refine ⟨e || c, fun k hk => ?_, ?_⟩
      · obtain ⟨k, rfl⟩ : ∃ m, k = m + 1 := ⟨k - 1, by omega⟩
        simp only [spec_l03Around.l0]
        rw [if_pos (by omega), spec_from_eq b t (by omega) hn, Option.bind_some, g1 k (by omega), Option.bind_some, w1 (by omega), h1 k (by omega)]
        cases e <;> rfl
      · rw [Bool.or_eq_true, g2, h2]
        refine ⟨fun h => ?_, fun ⟨s, a1, a2, a3⟩ => ?_⟩
        · rcases h with h | ⟨s, a1, a2, a3⟩
          · exact ⟨t, Nat.le_refl _, hlt, h⟩
          · exact ⟨s, by omega, a2, a3⟩
        · by_cases q : s = t
          · rw [q] at a3; exact .inl a3
          · exact .inr ⟨s, by omega, a2, a3⟩
    · refine ⟨false, fun k hk => ?_, ⟨fun q => (by cases q), fun ⟨s, h1, h2, _⟩ => absurd h2 (by omega)⟩⟩
      obtain ⟨k, rfl⟩ : ∃ m, k = m + 1 := ⟨k - 1, by omega⟩
      simp only [spec_l03Around.l0]
      rw [if_neg (by omega)]
theorem spec_around_eq (a b : List S30) (hn : b.length ≤ 1000000000) (ha : a.length ≤ 1000000000) : ∃ c : Bool, (∀ k, b.length + a.length + 1 < k → spec_l03Around.f k a b = some c) ∧ (c = true ↔ ∃ s, s < b.length ∧ IsRot a b s) := by
  obtain ⟨c, h1, h2⟩ := spec_around_loop a b hn ha b.length 0 (by omega)
  exact ⟨c, h1, h2.trans ⟨fun ⟨s, _, h⟩ => ⟨s, h⟩, fun ⟨s, h⟩ => ⟨s, by omega, h⟩⟩⟩

theorem impl_index_loop (b : List S30) (hn : b.length ≤ 1000000000) (q0 q1 : Int) : ∀ (d i : Nat), b.length - i ≤ d → ∃ r : Int, (∀ k, d < k → impl_Point.l0 k b (b.length : Int) i q0 q1 = some r) ∧
    ((r = -1 ∧ ∀ j, i ≤ j → j < b.length → ¬ (q0 = (b.getD j z30).f0 ∧ q1 = (b.getD j z30).f1)) ∨ ∃ t : Nat, r = t ∧ t < b.length ∧ q0 = (b.getD t z30).f0 ∧ q1 = (b.getD t z30).f1) := by
  intro d
  have fin : ∀ i : Nat, ¬ i < b.length → ∃ r : Int, (∀ k, 0 < k → impl_Point.l0 k b (b.length : Int) i q0 q1 = some r) ∧
    ((r = -1 ∧ ∀ j, i ≤ j → j < b.length → ¬ (q0 = (b.getD j z30).f0 ∧ q1 = (b.getD j z30).f1)) ∨ ∃ t : Nat, r = t ∧ t < b.length ∧ q0 = (b.getD t z30).f0 ∧ q1 = (b.getD t z30).f1) := by
    intro i hi
    refine ⟨-1, fun k hk => ?_, .inl ⟨rfl, fun j h1 h2 => absurd h2 (by omega)⟩⟩
    obtain ⟨k, rfl⟩ : ∃ m, k = m + 1 := ⟨k - 1, by omega⟩
    simp only [impl_Point.l0]
    rw [if_neg (by omega)]
  induction d with
  | zero =>
    intro i hi
    obtain ⟨r, h1, h2⟩ := fin i (by omega)
    exact ⟨r, fun k hk => h1 k (by omega), h2⟩
  | succ d ih =>
    intro i hi
    by_cases hlt : i < b.length
    · obtain ⟨r, h1, h2⟩ := ih (i + 1) (by omega)
      by_cases hq : q0 = (b.getD i z30).f0 ∧ q1 = (b.getD i z30).f1
      · refine ⟨i, fun k hk => ?_, .inr ⟨i, rfl, hlt, hq⟩⟩
        obtain ⟨k, rfl⟩ : ∃ m, k = m + 1 := ⟨k - 1, by omega⟩
        simp only [impl_Point.l0]
        rw [if_pos (by omega), if_pos (by omega), if_pos (by omega), rdN, if_pos (by rw [hq.1, hq.2]; simp)]
      · refine ⟨r, fun k hk => ?_, ?_⟩
        · obtain ⟨k, rfl⟩ : ∃ m, k = m + 1 := ⟨k - 1, by omega⟩
          simp only [impl_Point.l0]
          rw [if_pos (by omega), if_pos (by omega), if_pos (by omega), rdN, if_neg (by rw [Bool.and_eq_true, beq_iff_eq, beq_iff_eq]; exact hq), w1 (by omega)]
          exact h1 k (by omega)
        · rcases h2 with ⟨e, h⟩ | h
          · refine .inl ⟨e, fun j a1 a2 => ?_⟩
            by_cases ej : j = i
            · rw [ej]; exact hq
            · exact h j (by omega) a2
          · exact .inr h
    · obtain ⟨r, h1, h2⟩ := fin i hlt
      exact ⟨r, fun k hk => h1 k (by omega), h2⟩
theorem impl_same_loop (a b : List S30) (hl : a.length = b.length) (hn : b.length ≤ 1000000000) (t : Nat) (ht : t < b.length) : ∀ (d i : Nat), a.length - i ≤ d → ∃ c : Bool, (∀ k, d < k → impl_SamePolygon.l0 k a b t (a.length : Int) i = some c) ∧ (c = true ↔ ∀ j, i ≤ j → j < a.length → eqP (a.getD j z30) (b.getD ((t + j) % b.length) z30) = true) := by
  intro d
  induction d with
  | zero =>
    intro i hi
    refine ⟨true, fun k hk => ?_, ⟨fun _ j h1 h2 => absurd h2 (by omega), fun _ => rfl⟩⟩
    obtain ⟨k, rfl⟩ : ∃ m, k = m + 1 := ⟨k - 1, by omega⟩
    simp only [impl_SamePolygon.l0]
    rw [if_neg (by omega)]
  | succ d ih =>
    intro i hi
    by_cases hlt : i < a.length
    · obtain ⟨c, h1, h2⟩ := ih (i + 1) (by omega)
      have hm := Nat.mod_lt (t + i) (show 0 < b.length by omega)
      have e : Int.tmod (wrap64 ((t : Int) + (i : Int))) (b.length : Int) = (((t + i) % b.length : Nat) : Int) := by
        rw [w64 (by omega) (by omega), Int.tmod_eq_emod_of_nonneg (by omega), Int.natCast_emod]
        rfl
      refine ⟨eqP (a.getD i z30) (b.getD ((t + i) % b.length) z30) && c, fun k hk => ?_, ?_⟩
      · obtain ⟨k, rfl⟩ : ∃ m, k = m + 1 := ⟨k - 1, by omega⟩
        simp only [impl_SamePolygon.l0]
        rw [e, if_pos (by omega), if_pos (by omega), if_pos (by omega), if_neg (by omega), if_pos (by omega), if_pos (by omega), rdN, rdN, neP_eq, w1 (by omega), h1 k (by omega)]
        cases eqP (a.getD i z30) (b.getD ((t + i) % b.length) z30) <;> rfl
      · rw [Bool.and_eq_true, h2]
        refine ⟨fun h j a1 a2 => ?_, fun h => ⟨h i (Nat.le_refl _) hlt, fun j a1 a2 => h j (by omega) a2⟩⟩
        by_cases e : j = i
        · rw [e]; exact h.1
        · exact h.2 j (by omega) a2
    · refine ⟨true, fun k hk => ?_, ⟨fun _ j h1 h2 => absurd h2 (by omega), fun _ => rfl⟩⟩
      obtain ⟨k, rfl⟩ : ∃ m, k = m + 1 := ⟨k - 1, by omega⟩
      simp only [impl_SamePolygon.l0]
      rw [if_neg (by omega)]
/-- The first point tells where to begin. -/
theorem impl_around_eq (a b : List S30) (ha : Valid a) (hb : Valid b) : ∃ c : Bool, (∀ k, 30 ≤ k → impl_SamePolygon.j0 (k + 1) a b ((a.length : Int) != (b.length : Int)) = some c) ∧ (c = true ↔ ∃ s, s < b.length ∧ IsRot a b s) := by
  have ha3 := ha.1
  have hb3 := hb.1
  have hbn := hb.2.1
  have han := ha.2.1
  by_cases hl : a.length = b.length
  · obtain ⟨r, h1, h2⟩ := impl_index_loop b (by omega) (a.getD 0 z30).f0 (a.getD 0 z30).f1 b.length 0 (by omega)
    have e0 : rd_T30 a 0 = a.getD 0 z30 := rdN a 0
    rcases h2 with ⟨rfl, h⟩ | ⟨t, rfl, ht, q0, q1⟩
    · refine ⟨false, fun k hk => ?_, ⟨fun q => (by cases q), fun ⟨s, s1, s2⟩ => ?_⟩⟩
      · simp only [impl_SamePolygon.j0]
        rw [hl, bne_self_eq_false, if_neg (by simp), if_pos (by omega), e0]
        unfold impl_startOf.f impl_Point.f
        have := h1 k (by omega)
        simp only [Int.natCast_zero] at this
        rw [this]
        rfl
      · have := (eqP_iff _ _).1 (s2.2 0 (by omega))
        rw [Nat.add_zero, Nat.mod_eq_of_lt s1] at this
        exact absurd this (h s (by omega) s1)
    · obtain ⟨c, g1, g2⟩ := impl_same_loop a b hl (by omega) t ht a.length 0 (by omega)
      refine ⟨c, fun k hk => ?_, g2.trans ⟨fun q => ⟨t, ht, hl, fun i hi => q i (by omega) (by omega)⟩, fun ⟨s, s1, s2⟩ => ?_⟩⟩
      · simp only [impl_SamePolygon.j0]
        rw [show ((a.length : Int) != (b.length : Int)) = false by rw [hl]; exact bne_self_eq_false _, if_neg (by simp), if_pos (by omega), e0]
        unfold impl_startOf.f impl_Point.f
        have := h1 k (by omega)
        simp only [Int.natCast_zero] at this
        rw [this]
        simp only [Option.bind_some]
        rw [if_neg (by omega)]
        exact g1 k (by omega)
      · -- the points of b differ: it is the same beginning
        have h0 := (eqP_iff _ _).1 (s2.2 0 (by omega))
        rw [Nat.add_zero, Nat.mod_eq_of_lt s1] at h0
        have e : s = t := by
          rcases Nat.lt_trichotomy s t with h | h | h
          · exact absurd ⟨h0.1.symm.trans q0, h0.2.symm.trans q1⟩ (corners_differ hb s t h ht)
          · exact h
          · exact absurd ⟨q0.symm.trans h0.1, q1.symm.trans h0.2⟩ (corners_differ hb t s h s1)
        subst e
        exact fun j _ hj => s2.2 j (by omega)
  · refine ⟨false, fun k hk => ?_, ⟨fun q => (by cases q), fun ⟨s, _, s2⟩ => absurd s2.1 hl⟩⟩
    have : ((a.length : Int) != (b.length : Int)) = true := by
      rw [bne_iff_ne]
      omega
    rw [this]
    simp only [impl_SamePolygon.j0, if_true]

/-- The law's points as the program's. -/
def conv (l : List S24) : List S30 := l.map fun s => ⟨s.f0, s.f1⟩
theorem conv_length (l : List S24) : (conv l).length = l.length := by
  unfold conv
  rw [List.length_map]
theorem sz_small (l : List S24) (h : l.length ≤ 1048576) : laws_szPointS.f l 1048576 = some (1048576 - (l.length : Int)) := by
  unfold laws_szPointS.f
  rw [w64 (by omega) (by omega), if_neg (by omega)]
theorem sz_large (l : List S24) (hm : l.length ≤ 9223372036854775807) (h : 1048576 < l.length) : laws_szPointS.f l 1048576 = some (-1) := by
  unfold laws_szPointS.f
  rw [w64 (by omega) (by omega), if_pos (by omega)]
theorem rdLN (l : List S24) (j : Nat) : rd_T24 l (j : Int) = l.getD j z24 := by
  unfold rd_T24
  rw [Int.toNat_natCast]
theorem toPointS_loop (l : List S24) (h : l.length ≤ 1048576) : ∀ (d k i : Nat) (x : List S30), i ≤ l.length → l.length - i ≤ d → d < k → x.length = l.length → laws_toPointS.l0 k l x i = some (x.take i ++ (conv l).drop i)
  | d, 0, i, x, _, _, h2, _ => absurd h2 (by omega)
  | d, k + 1, i, x, h0, h1, h2, hx => by
    simp only [laws_toPointS.l0, laws_toPoint.f]
    by_cases hi : i < l.length
    · rw [if_pos (by omega), if_pos (by omega), Option.bind_some, if_pos (by omega), w1 (by omega), toPointS_loop l h (d - 1) k (i + 1) _ (by omega) (by omega) (by omega) (by rw [List.length_set, hx]), rdLN]
      have e : l.getD i z24 = l[i] := by
        rw [List.getD_eq_getElem?_getD, List.getElem?_eq_getElem hi]
        rfl
      rw [e, Int.toNat_natCast, List.take_succ_eq_append_getElem (by rw [List.length_set, hx]; exact hi), List.getElem_set_self, List.take_set_of_le (Nat.le_refl _), List.append_assoc]
      congr 2
      rw [List.drop_eq_getElem_cons (i := i) (by rw [conv_length]; exact hi)]
      unfold conv
      rw [List.getElem_map]
      rfl
    · rw [if_neg (by omega), List.take_of_length_le (by omega), List.drop_eq_nil_of_le (by rw [conv_length]; omega), List.append_nil]
theorem toPointS_eq (l : List S24) (h : l.length ≤ 1048576) (k : Nat) (hk : l.length < k) : laws_toPointS.f k l = some (conv l) := by
  unfold laws_toPointS.f
  rw [if_pos (by omega), if_pos (by omega)]
  have := toPointS_loop l h l.length k 0 (List.replicate ((l.length : Int) : Int).toNat z30) (by omega) (by omega) hk (by rw [List.length_replicate, Int.toNat_natCast])
  simp only [Int.natCast_zero] at this
  rw [this, List.take_zero, List.nil_append, List.drop_zero]
theorem eqPoint_self (x y : Int) : laws_eqPoint.f x y x y = some true := by
  unfold laws_eqPoint.f
  rw [if_pos rfl, if_pos rfl]
theorem eqPointS_loop (l : List S30) (h : l.length ≤ 1000000000) : ∀ (d k i : Nat), l.length - i ≤ d → d < k → laws_eqPointS.l0 k l l i = some true
  | d, 0, i, _, h2 => absurd h2 (by omega)
  | d, k + 1, i, h1, h2 => by
    simp only [laws_eqPointS.l0]
    by_cases hi : i < l.length
    · rw [if_pos (by omega), if_pos (by omega), if_pos (by omega), eqPoint_self, Option.bind_some, if_pos rfl, w1 (by omega)]
      exact eqPointS_loop l h (d - 1) k (i + 1) (by omega) (by omega)
    · rw [if_neg (by omega)]
theorem eqPointS_self (l : List S30) (h : l.length ≤ 1000000000) (k : Nat) (hk : l.length < k) : laws_eqPointS.f k l l = some true := by
  unfold laws_eqPointS.f
  rw [if_pos rfl]
  exact eqPointS_loop l h l.length k 0 (by omega) hk

theorem back_eq (l : List S24) (h : l.length ≤ 1048576) (k : Nat) (hk : l.length < k) : ((laws_toPointS.f k l).bind fun t => (laws_eqPointS.f k (conv l) t).bind fun b => if b = true then some true else some false) = some true := by
  rw [toPointS_eq l h k hk, Option.bind_some, eqPointS_self (conv l) (by rw [conv_length]; omega) k (by rw [conv_length]; omega)]
  rfl

theorem sames_eq (a b : List S30) (ha : a.length ≤ 1048576) (hb : b.length ≤ 1048576) : ∃ r : Bool, (∀ k, 1001 ≤ k → spec_SamePolygon.f k a b = some r) ∧ (∀ k, 1001 ≤ k → impl_SamePolygon.f k a b = some r) := by
  obtain ⟨x, h1, h2, hx⟩ := spec_valid_eq a ha
  obtain ⟨y, g1, g2, hy⟩ := spec_valid_eq b hb
  have jt : ∀ k, impl_SamePolygon.j0 (k + 1) a b true = some false := fun k => by simp only [impl_SamePolygon.j0, if_true]
  cases x with
  | false =>
    refine ⟨false, fun k hk => ?_, fun k hk => ?_⟩
    · unfold spec_SamePolygon.f
      rw [h1 k (by omega)]
      rfl
    · obtain ⟨k, rfl⟩ : ∃ m, k = m + 1 := ⟨k - 1, by omega⟩
      unfold impl_SamePolygon.f
      rw [h2 _ (by omega), Option.bind_some, if_neg (by simp), jt]
  | true =>
    cases y with
    | false =>
      refine ⟨false, fun k hk => ?_, fun k hk => ?_⟩
      · unfold spec_SamePolygon.f
        rw [h1 k (by omega), Option.bind_some, if_pos rfl, g1 k (by omega)]
        rfl
      · obtain ⟨k, rfl⟩ : ∃ m, k = m + 1 := ⟨k - 1, by omega⟩
        unfold impl_SamePolygon.f
        rw [h2 _ (by omega), Option.bind_some, if_pos rfl, g2 _ (by omega), Option.bind_some, if_neg (by simp), jt]
    | true =>
      have va := hx.1 rfl
      have vb := hy.1 rfl
      have na := va.2.1
      have nb := vb.2.1
      obtain ⟨c, c1, c2⟩ := spec_around_eq a b (by omega) (by omega)
      obtain ⟨e, e1, e2⟩ := impl_around_eq a b va vb
      have ce : c = e := by rw [Bool.eq_iff_iff, c2, e2]
      subst ce
      refine ⟨c, fun k hk => ?_, fun k hk => ?_⟩
      · unfold spec_SamePolygon.f
        rw [h1 k (by omega), Option.bind_some, if_pos rfl, g1 k (by omega), Option.bind_some, if_pos rfl, c1 k (by omega)]
        rfl
      · obtain ⟨k, rfl⟩ : ∃ m, k = m + 1 := ⟨k - 1, by omega⟩
        unfold impl_SamePolygon.f
        rw [h2 _ (by omega), Option.bind_some, if_pos rfl, g2 _ (by omega), Option.bind_some, if_pos rfl, e1 k (by omega)]
theorem FnExactSamePolygon (l m : List S24) (hl : l.length ≤ maxLen) (hg : ∀ x ∈ l, (Lit.int .i64 x.f0).wf = true ∧ (Lit.int .i64 x.f1).wf = true) (hl2 : m.length ≤ maxLen) (hg2 : ∀ x ∈ m, (Lit.int .i64 x.f0).wf = true ∧ (Lit.int .i64 x.f1).wf = true) : ∃ k, laws_FnExactSamePolygon.f k l m = some true := by
  unfold maxLen at hl hl2
  by_cases hs : l.length ≤ 1048576
  · by_cases hs2 : m.length ≤ 1048576 - l.length
    · obtain ⟨r, h1, h2⟩ := sames_eq (conv l) (conv m) (by rw [conv_length]; exact hs) (by rw [conv_length]; omega)
      have e1 := fun k (hk : l.length < k) => toPointS_eq l hs k hk
      have e2 := fun k (hk : l.length < k) => eqPointS_self (conv l) (by rw [conv_length]; omega) k (by rw [conv_length]; exact hk)
      have f1 := fun k (hk : m.length < k) => toPointS_eq m (by omega) k hk
      have f2 := fun k (hk : m.length < k) => eqPointS_self (conv m) (by rw [conv_length]; omega) k (by rw [conv_length]; exact hk)
      have q2 : ¬ (1048576 - (l.length : Int)) < 0 := by omega
      have s2 : laws_szPointS.f m (1048576 - (l.length : Int)) = some (1048576 - (l.length : Int) - m.length) := by
        unfold laws_szPointS.f
        rw [w64 (by omega) (by omega), if_neg (by omega)]
      have q3 : ¬ (1048576 - (l.length : Int) - m.length) < 0 := by omega
      refine ⟨1048578, ?_⟩
      unfold laws_FnExactSamePolygon.f
      simp (disch := omega) only [sz_small, e1, e2, f1, f2, s2, h1, h2, Option.bind_some, q2, q3, if_true, if_false, bne_self_eq_false, Bool.false_eq_true]
    · refine ⟨0, ?_⟩
      have s2 : laws_szPointS.f m (1048576 - (l.length : Int)) = some (-1) := by
        unfold laws_szPointS.f
        rw [w64 (by omega) (by omega), if_pos (by omega)]
      unfold laws_FnExactSamePolygon.f
      rw [sz_small l hs, Option.bind_some, if_neg (by omega), s2]
      rfl
  · refine ⟨0, ?_⟩
    unfold laws_FnExactSamePolygon.f
    rw [sz_large l hl (by omega)]
    rfl

end Go.Proofs.Ytkobmkdjmpnojaa.Pure
