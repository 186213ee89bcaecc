/- The plain law: what FnExactHullOf computes is true at every input. -/
import Derived.Test.YtkobmkdjmpnojaaQFnExactHullOfx
import Derived.Test.YtkobmkdjmpnojaaMaHull
namespace Go.Proofs.Ytkobmkdjmpnojaa.Pure
open Go.RowKit Go.Proofs.Ytkobmkdjmpnojaa.PFnExactHullOf Go.Proofs.YtkobmkdjmpnojaaW.PrintWords Go.Proofs.YtkobmkdjmpnojaaW.PrintLast Go.Proofs.YtkobmkdjmpnojaaW.PrintMore Go.Proofs.Ytkobmkdjmpnojaa.MaHull
set_option linter.unusedVariables false
set_option linter.unusedSimpArgs false

theorem w64 {x : Int} (h1 : -9223372036854775808 ≤ x) (h2 : x ≤ 9223372036854775807) : wrap64 x = x := by
  unfold wrap64
  omega
theorem wf64 {n : Int} (h : (Lit.int .i64 n).wf = true) : -9223372036854775808 ≤ n ∧ n ≤ 9223372036854775807 := by
  simp [Lit.wf, IntKind.min, IntKind.max, IntKind.bits, IntKind.signed] at h
  omega
theorem toList_nil_iff (s : ByteArray) : s.toList = ([] : List UInt8) ↔ s.size = 0 := by
  rw [ByteArray.toList_eq, List.eq_nil_iff_length_eq_zero, data_length]

theorem rdN (p : List S30) (j : Nat) : rd_T30 p (j : Int) = p.getD j z30 := by
  unfold rd_T30
  rw [Int.toNat_natCast]
theorem tm1 {i n : Nat} (hn : n ≤ 4611686018427387904) (hi : i < n) : Int.tmod (wrap64 ((i : Int) + 1)) (n : Int) = (((i + 1) % n : Nat) : Int) := by
  rw [w64 (by omega) (by omega), Int.tmod_eq_emod_of_nonneg (by omega), Int.natCast_emod]
  rfl
theorem tm2 {i n : Nat} (hn : n ≤ 4611686018427387904) (hi : i < n) : Int.tmod (wrap64 ((i : Int) + 2)) (n : Int) = (((i + 2) % n : Nat) : Int) := by
  rw [w64 (by omega) (by omega), Int.tmod_eq_emod_of_nonneg (by omega), Int.natCast_emod]
  rfl
theorem w1 {i : Nat} (hi : i ≤ 4611686018427387904) : wrap64 ((i : Int) + 1) = ((i + 1 : Nat) : Int) := by
  rw [w64 (by omega) (by omega)]
  omega
theorem w2 {i : Nat} (hi : i ≤ 4611686018427387904) : wrap64 ((i : Int) + 2) = ((i + 2 : Nat) : Int) := by
  rw [w64 (by omega) (by omega)]
  omega

theorem impl_within_eq (n lo hi : Int) : impl_within.f n lo hi = some (decide (lo ≤ n ∧ n ≤ hi)) := by
  unfold impl_within.f
  by_cases h : n ≥ lo
  · rw [if_pos h]
    have : lo ≤ n := h
    simp [this]
  · rw [if_neg h]
    have : ¬ lo ≤ n := h
    simp [this]

theorem spec_l00In_eq (n lo hi : Int) : spec_l00In.f n lo hi = some (decide (lo ≤ n ∧ n ≤ hi)) := by
  unfold spec_l00In.f
  by_cases h : n ≥ lo
  · rw [if_pos h]
    have : lo ≤ n := h
    simp [this]
  · rw [if_neg h]
    have : ¬ lo ≤ n := h
    simp [this]

/-- A valid point. -/
def okP (x y : Int) : Bool := decide (0 ≤ x ∧ x ≤ 20000) && decide (0 ≤ y ∧ y ≤ 20000)
theorem okP_iff (x y : Int) : okP x y = true ↔ (0 ≤ x ∧ x ≤ 20000) ∧ (0 ≤ y ∧ y ≤ 20000) := by
  unfold okP
  rw [Bool.and_eq_true, decide_eq_true_eq, decide_eq_true_eq]
theorem ok_bind (x y : Int) (f : Bool → Option Bool) (hf : ∀ b, f b = some b) : (if decide (0 ≤ x ∧ x ≤ 20000) = true then (some (decide (0 ≤ y ∧ y ≤ 20000))).bind f else some false) = some (okP x y) := by
  unfold okP
  by_cases h : 0 ≤ x ∧ x ≤ 20000
  · rw [decide_eq_true h, if_pos rfl]
    simp [hf]
  · rw [decide_eq_false h, if_neg (by decide)]
    simp

theorem sides_same (a0 a1 b0 b1 c0 c1 : Int) : spec_l02Side.f a0 a1 b0 b1 c0 c1 = impl_side.f a0 a1 b0 b1 c0 c1 := by
  unfold spec_l02Side.f spec_l02Cross.f impl_side.f
  rfl
/-- The side, as the program reckons it. -/
def sideW (a0 a1 b0 b1 c0 c1 : Int) : Int := if (wrap64 ((wrap64 ((wrap64 (b0 - a0)) * (wrap64 (c1 - a1)))) - (wrap64 ((wrap64 (b1 - a1)) * (wrap64 (c0 - a0)))))) > 0 then 1 else (if (wrap64 ((wrap64 ((wrap64 (b0 - a0)) * (wrap64 (c1 - a1)))) - (wrap64 ((wrap64 (b1 - a1)) * (wrap64 (c0 - a0)))))) < 0 then -1 else 0)
theorem impl_side_eq (a0 a1 b0 b1 c0 c1 : Int) : impl_side.f a0 a1 b0 b1 c0 c1 = some (sideW a0 a1 b0 b1 c0 c1) := by
  unfold impl_side.f sideW
  split
  · rfl
  · split <;> rfl
theorem spec_side_eq (a0 a1 b0 b1 c0 c1 : Int) : spec_l02Side.f a0 a1 b0 b1 c0 c1 = some (sideW a0 a1 b0 b1 c0 c1) := by
  rw [sides_same, impl_side_eq]
theorem sideW_three (a0 a1 b0 b1 c0 c1 : Int) : sideW a0 a1 b0 b1 c0 c1 = 1 ∨ sideW a0 a1 b0 b1 c0 c1 = -1 ∨ sideW a0 a1 b0 b1 c0 c1 = 0 := by
  unfold sideW
  split
  · exact .inl rfl
  · split
    · exact .inr (.inl rfl)
    · exact .inr (.inr rfl)

def sqW (a0 a1 b0 b1 : Int) : Int := wrap64 ((wrap64 ((wrap64 (a0 - b0)) * (wrap64 (a0 - b0)))) + (wrap64 ((wrap64 (a1 - b1)) * (wrap64 (a1 - b1)))))
theorem wrap64_range (x : Int) : -9223372036854775808 ≤ wrap64 x ∧ wrap64 x ≤ 9223372036854775807 := by
  unfold wrap64
  omega
theorem sqW_range (a0 a1 b0 b1 : Int) : -9223372036854775808 ≤ sqW a0 a1 b0 b1 ∧ sqW a0 a1 b0 b1 ≤ 9223372036854775807 := wrap64_range _
theorem spec_square_eq (a0 a1 b0 b1 : Int) : spec_l02Square.f a0 a1 b0 b1 = some (sqW a0 a1 b0 b1) := rfl
theorem impl_squared_eq (a0 a1 b0 b1 : Int) : impl_squared.f a0 a1 b0 b1 = some (sqW a0 a1 b0 b1) := rfl

theorem mul_self_nonneg' (a : Int) : 0 ≤ a * a := by
  rcases Int.le_total 0 a with h | h
  · exact Int.mul_nonneg h h
  · have := Int.mul_nonneg (show 0 ≤ -a by omega) (show 0 ≤ -a by omega)
    rwa [Int.neg_mul_neg] at this
theorem prod_in2 {a b M N : Int} (ha : -M ≤ a ∧ a ≤ M) (hb : -N ≤ b ∧ b ≤ N) (hM : 0 ≤ M) (hN : 0 ≤ N) : -(M * N) ≤ a * b ∧ a * b ≤ M * N := by
  rcases Int.le_total 0 a with h | h
  · have h1 : a * b ≤ a * N := Int.mul_le_mul_of_nonneg_left hb.2 h
    have h2 : a * (-N) ≤ a * b := Int.mul_le_mul_of_nonneg_left hb.1 h
    have h3 : a * N ≤ M * N := Int.mul_le_mul_of_nonneg_right ha.2 hN
    rw [Int.mul_neg] at h2
    omega
  · have h1 : (-a) * b ≤ (-a) * N := Int.mul_le_mul_of_nonneg_left hb.2 (by omega)
    have h2 : (-a) * (-N) ≤ (-a) * b := Int.mul_le_mul_of_nonneg_left hb.1 (by omega)
    have h3 : (-a) * N ≤ M * N := Int.mul_le_mul_of_nonneg_right (by omega) hN
    have e1 : (-a) * b = -(a * b) := Int.neg_mul a b
    have e2 : (-a) * N = -(a * N) := Int.neg_mul a N
    have e3 : (-a) * (-N) = a * N := Int.neg_mul_neg a N
    omega
theorem prod_in {a b M : Int} (ha : -M ≤ a ∧ a ≤ M) (hb : -M ≤ b ∧ b ≤ M) (hM : 0 ≤ M) : -(M * M) ≤ a * b ∧ a * b ≤ M * M := prod_in2 ha hb hM hM

/-- The cross product, exact. -/
def crX (a0 a1 b0 b1 c0 c1 : Int) : Int := (b0 - a0) * (c1 - a1) - (b1 - a1) * (c0 - a0)
theorem crX_w (a0 a1 b0 b1 c0 c1 : Int) (ha : okP a0 a1 = true) (hb : okP b0 b1 = true) (hc : okP c0 c1 = true) :
    wrap64 ((wrap64 ((wrap64 (b0 - a0)) * (wrap64 (c1 - a1)))) - (wrap64 ((wrap64 (b1 - a1)) * (wrap64 (c0 - a0))))) = crX a0 a1 b0 b1 c0 c1 ∧ -800000000 ≤ crX a0 a1 b0 b1 c0 c1 ∧ crX a0 a1 b0 b1 c0 c1 ≤ 800000000 := by
  obtain ⟨⟨A1, A2⟩, A3, A4⟩ := (okP_iff _ _).1 ha
  obtain ⟨⟨B1, B2⟩, B3, B4⟩ := (okP_iff _ _).1 hb
  obtain ⟨⟨C1, C2⟩, C3, C4⟩ := (okP_iff _ _).1 hc
  have h1 := prod_in (a := b0 - a0) (b := c1 - a1) (M := 20000) (by omega) (by omega) (by omega)
  have h2 := prod_in (a := b1 - a1) (b := c0 - a0) (M := 20000) (by omega) (by omega) (by omega)
  unfold crX
  rw [w64 (x := b0 - a0) (by omega) (by omega), w64 (x := b1 - a1) (by omega) (by omega), w64 (x := c0 - a0) (by omega) (by omega), w64 (x := c1 - a1) (by omega) (by omega), w64 (x := (b0 - a0) * (c1 - a1)) (by omega) (by omega), w64 (x := (b1 - a1) * (c0 - a0)) (by omega) (by omega), w64 (by omega) (by omega)]
  exact ⟨rfl, by omega, by omega⟩
theorem sideW_X (a0 a1 b0 b1 c0 c1 : Int) (ha : okP a0 a1 = true) (hb : okP b0 b1 = true) (hc : okP c0 c1 = true) :
    sideW a0 a1 b0 b1 c0 c1 = if crX a0 a1 b0 b1 c0 c1 > 0 then 1 else if crX a0 a1 b0 b1 c0 c1 < 0 then -1 else 0 := by
  unfold sideW
  rw [(crX_w a0 a1 b0 b1 c0 c1 ha hb hc).1]

theorem q_ext {x y : S30} (h0 : x.f0 = y.f0) (h1 : x.f1 = y.f1) : x = y := by
  cases x
  cases y
  simp_all
def eqQ (x y : S30) : Bool := x.f0 == y.f0 && (x.f1 == y.f1)
theorem eqQ_iff (x y : S30) : eqQ x y = true ↔ x = y := by
  unfold eqQ
  rw [Bool.and_eq_true, beq_iff_eq, beq_iff_eq]
  exact ⟨fun h => q_ext h.1 h.2, fun h => by rw [h]; exact ⟨rfl, rfl⟩⟩
/-- q lies before c, as seen from a. -/
def betterW (a c q : S30) : Bool := decide (sideW a.f0 a.f1 c.f0 c.f1 q.f0 q.f1 < 0) || (decide (sideW a.f0 a.f1 c.f0 c.f1 q.f0 q.f1 = 0) && decide (sqW a.f0 a.f1 q.f0 q.f1 > sqW a.f0 a.f1 c.f0 c.f1))
def nxtW (a c q : S30) : S30 := if eqQ c a = true then q else if betterW a c q = true then q else c
theorem sqW_self (a0 a1 : Int) : sqW a0 a1 a0 a1 = 0 := by
  unfold sqW
  rw [Int.sub_self, Int.sub_self, w64 (x := 0) (by omega) (by omega), Int.mul_zero, w64 (x := 0) (by omega) (by omega), Int.add_zero, w64 (x := 0) (by omega) (by omega)]
theorem sqW_X (a0 a1 b0 b1 : Int) (ha : okP a0 a1 = true) (hb : okP b0 b1 = true) : sqW a0 a1 b0 b1 = (b0 - a0) * (b0 - a0) + (b1 - a1) * (b1 - a1) := by
  obtain ⟨⟨A1, A2⟩, A3, A4⟩ := (okP_iff _ _).1 ha
  obtain ⟨⟨B1, B2⟩, B3, B4⟩ := (okP_iff _ _).1 hb
  have h1 := prod_in (a := a0 - b0) (b := a0 - b0) (M := 20000) (by omega) (by omega) (by omega)
  have h2 := prod_in (a := a1 - b1) (b := a1 - b1) (M := 20000) (by omega) (by omega) (by omega)
  unfold sqW
  rw [w64 (x := a0 - b0) (by omega) (by omega), w64 (x := a1 - b1) (by omega) (by omega), w64 (x := (a0 - b0) * (a0 - b0)) (by omega) (by omega), w64 (x := (a1 - b1) * (a1 - b1)) (by omega) (by omega), w64 (by omega) (by omega)]
  grind
theorem sideW_at (a c : S30) : sideW a.f0 a.f1 c.f0 c.f1 a.f0 a.f1 = 0 := by
  unfold sideW
  rw [Int.sub_self, Int.sub_self, w64 (x := 0) (by omega) (by omega), Int.mul_zero, Int.mul_zero, w64 (x := 0) (by omega) (by omega), Int.sub_self, w64 (x := 0) (by omega) (by omega)]
  rfl
/-! The order round a vertex. -/
def CR (a b q : S30) : Int := cr (b.f0 - a.f0) (b.f1 - a.f1) (q.f0 - a.f0) (q.f1 - a.f1)
def SQ (a b : S30) : Int := (b.f0 - a.f0) * (b.f0 - a.f0) + (b.f1 - a.f1) * (b.f1 - a.f1)
theorem CR_crX (a b q : S30) : crX a.f0 a.f1 b.f0 b.f1 q.f0 q.f1 = CR a b q := rfl
def AllOk (l : List S30) : Prop := ∀ q, q ∈ l → okP q.f0 q.f1 = true
theorem betterW_iff {l : List S30} (hl : AllOk l) {a c q : S30} (ha : a ∈ l) (hc : c ∈ l) (hq : q ∈ l) : betterW a c q = true ↔ CR a c q < 0 ∨ (CR a c q = 0 ∧ SQ a c < SQ a q) := by
  unfold betterW
  rw [sideW_X _ _ _ _ _ _ (hl a ha) (hl c hc) (hl q hq), sqW_X _ _ _ _ (hl a ha) (hl q hq), sqW_X _ _ _ _ (hl a ha) (hl c hc), CR_crX, Bool.or_eq_true, Bool.and_eq_true, decide_eq_true_eq, decide_eq_true_eq, decide_eq_true_eq]
  unfold SQ
  generalize (q.f0 - a.f0) * (q.f0 - a.f0) + (q.f1 - a.f1) * (q.f1 - a.f1) = x
  generalize (c.f0 - a.f0) * (c.f0 - a.f0) + (c.f1 - a.f1) * (c.f1 - a.f1) = y
  generalize CR a c q = z
  by_cases h1 : z > 0
  · rw [if_pos h1]
    omega
  · by_cases h2 : z < 0
    · rw [if_neg h1, if_pos h2]
      omega
    · rw [if_neg h1, if_neg h2]
      omega
/-- All others lie in a cone round a. -/
def Corner (l : List S30) (a : S30) : Prop := a ∈ l ∧ ∃ dx dy e : Int, (e = 1 ∨ e = -1) ∧ 0 < dx * dx + dy * dy ∧ ∀ q, q ∈ l → q ≠ a → Cone dx dy e (q.f0 - a.f0) (q.f1 - a.f1)
/-- What the search has found among those that it has seen. -/
def Seen (l done : List S30) (a c : S30) : Prop := (c = a ∧ ∀ q, q ∈ done → q = a) ∨ (c ≠ a ∧ c ∈ l ∧ ∀ q, q ∈ done → 0 ≤ CR a c q ∧ (CR a c q = 0 → SQ a q ≤ SQ a c))
theorem CR_at (a c : S30) : CR a c a = 0 := by
  unfold CR cr
  rw [Int.sub_self, Int.sub_self, Int.mul_zero, Int.mul_zero]
  rfl
theorem CR_self (a c : S30) : CR a c c = 0 := by
  unfold CR cr
  rw [Int.mul_comm]
  omega
theorem SQ_at (a : S30) : SQ a a = 0 := by
  unfold SQ
  rw [Int.sub_self, Int.sub_self, Int.mul_zero]
  rfl
theorem SQ_nn (a b : S30) : 0 ≤ SQ a b := by
  unfold SQ
  have := sq0 (b.f0 - a.f0)
  have := sq0 (b.f1 - a.f1)
  omega
theorem SQ_pos {a b : S30} (h : b ≠ a) : 0 < SQ a b := by
  unfold SQ
  have h0 := sq0 (b.f0 - a.f0)
  have h1 := sq0 (b.f1 - a.f1)
  by_cases e0 : b.f0 = a.f0
  · have e1 : b.f1 ≠ a.f1 := fun e1 => h (q_ext e0 e1)
    have := sqp (a := b.f1 - a.f1) (by omega)
    omega
  · have := sqp (a := b.f0 - a.f0) (by omega)
    omega
theorem CR_flip (a c q : S30) : CR a q c = -(CR a c q) := by
  unfold CR cr
  grind
theorem seen_step {l done : List S30} (hl : AllOk l) {a c q : S30} (hE : Corner l a) (hd : ∀ x, x ∈ done → x ∈ l) (hq : q ∈ l) (hS : Seen l done a c) : Seen l (done ++ [q]) a (nxtW a c q) := by
  obtain ⟨ha, dx, dy, e, he, hdd, hcone⟩ := hE
  unfold nxtW
  rcases hS with ⟨rfl, h⟩ | ⟨hne, hcl, h⟩
  · rw [if_pos ((eqQ_iff _ _).2 rfl)]
    by_cases e1 : q = c
    · subst e1
      refine .inl ⟨rfl, fun x hx => ?_⟩
      rcases List.mem_append.1 hx with hx | hx
      · exact h x hx
      · simpa using hx
    · refine .inr ⟨e1, hq, fun x hx => ?_⟩
      rcases List.mem_append.1 hx with hx | hx
      · rw [h x hx, CR_at, SQ_at]
        exact ⟨Int.le_refl _, fun _ => SQ_nn _ _⟩
      · have : x = q := by simpa using hx
        subst this
        rw [CR_self]
        exact ⟨Int.le_refl _, fun _ => Int.le_refl _⟩
  · rw [if_neg (fun hh => hne ((eqQ_iff _ _).1 hh))]
    have hcc := hcone c hcl hne
    by_cases hb : betterW a c q = true
    · rw [if_pos hb]
      have hb' := (betterW_iff hl ha hcl hq).1 hb
      have hqa : q ≠ a := by
        intro hqa
        subst hqa
        rw [CR_at, SQ_at] at hb'
        have := SQ_nn q c
        omega
      have hcq := hcone q hq hqa
      refine .inr ⟨hqa, hq, fun x hx => ?_⟩
      rcases List.mem_append.1 hx with hx | hx
      · obtain ⟨x1, x2⟩ := h x hx
        by_cases hxa : x = a
        · subst hxa
          rw [CR_at, SQ_at]
          exact ⟨Int.le_refl _, fun _ => SQ_nn _ _⟩
        · have hcx := hcone x (hd x hx) hxa
          have hfl := CR_flip a c q
          rcases hb' with hb' | ⟨hb', hb2⟩
          · have : 0 < CR a q x := c_pn he hdd hcq hcc hcx (show 0 < CR a q c by omega) x1
            exact ⟨by omega, fun h0 => by omega⟩
          · have hge : 0 ≤ CR a q x := c_nn he hdd hcq hcc hcx (show 0 ≤ CR a q c by omega) x1
            refine ⟨hge, fun h0 => ?_⟩
            have hz : CR a c x = 0 := by
              rcases Int.lt_or_eq_of_le x1 with hlt | heq
              · have : 0 < CR a q x := c_np he hdd hcq hcc hcx (show 0 ≤ CR a q c by omega) hlt
                omega
              · exact heq.symm
            have := x2 hz
            omega
      · have : x = q := by simpa using hx
        subst this
        rw [CR_self]
        exact ⟨Int.le_refl _, fun _ => Int.le_refl _⟩
    · rw [if_neg hb]
      have hb' : ¬ (CR a c q < 0 ∨ (CR a c q = 0 ∧ SQ a c < SQ a q)) := fun hh => hb ((betterW_iff hl ha hcl hq).2 hh)
      refine .inr ⟨hne, hcl, fun x hx => ?_⟩
      rcases List.mem_append.1 hx with hx | hx
      · exact h x hx
      · have : x = q := by simpa using hx
        subst this
        exact ⟨by omega, fun h0 => by omega⟩
theorem seen_all {l : List S30} (hl : AllOk l) {a : S30} (hE : Corner l a) : ∀ (rest done : List S30) (c : S30), done ++ rest = l → Seen l done a c → Seen l l a (rest.foldl (nxtW a) c)
  | [], done, c, h, hS => by
    rw [List.append_nil] at h
    rw [h] at hS
    exact hS
  | q :: rest, done, c, h, hS => by
    have hq : q ∈ l := by rw [← h]; simp
    have hd : ∀ x, x ∈ done → x ∈ l := fun x hx => by rw [← h]; exact List.mem_append_left _ hx
    exact seen_all hl hE rest (done ++ [q]) (nxtW a c q) (by rw [List.append_assoc]; exact h) (seen_step hl hE hd hq hS)
/-- The next corner. -/
def nextC (l : List S30) (a : S30) : S30 := l.foldl (nxtW a) a
theorem nextC_seen {l : List S30} (hl : AllOk l) {a : S30} (hE : Corner l a) : Seen l l a (nextC l a) := seen_all hl hE l [] a rfl (.inl ⟨rfl, fun q hq => by simp at hq⟩)
theorem nextC_corner {l : List S30} (hl : AllOk l) {a : S30} (hE : Corner l a) : Corner l (nextC l a) := by
  rcases nextC_seen hl hE with ⟨h, _⟩ | ⟨hne, hcl, h⟩
  · rw [h]; exact hE
  · generalize nextC l a = b at hne hcl h
    refine ⟨hcl, b.f0 - a.f0, b.f1 - a.f1, -1, .inr rfl, SQ_pos hne, fun q hq hqb => ⟨?_, fun h0 => ?_⟩⟩
    · have := (h q hq).1
      unfold CR cr at this
      have e : (b.f0 - a.f0) * (q.f1 - b.f1) - (b.f1 - a.f1) * (q.f0 - b.f0) = (b.f0 - a.f0) * (q.f1 - a.f1) - (b.f1 - a.f1) * (q.f0 - a.f0) := by grind
      rw [e]
      exact this
    · have e : (b.f0 - a.f0) * (q.f1 - b.f1) - (b.f1 - a.f1) * (q.f0 - b.f0) = CR a b q := by unfold CR cr; grind
      rw [e] at h0
      have h2 := (h q hq).2 h0
      have h3 := SQ_pos hqb
      unfold SQ at h2 h3
      grind
theorem nextC_inj {l : List S30} (hl : AllOk l) {a b : S30} (ha : Corner l a) (hb : Corner l b) (h : nextC l a = nextC l b) : a = b := by
  have hal := ha.1
  have hbl := hb.1
  rcases nextC_seen hl ha with ⟨e, hall⟩ | ⟨hne, hcl, hA⟩
  · exact (hall b hbl).symm
  · rcases nextC_seen hl hb with ⟨e, hall⟩ | ⟨hne2, _, hB⟩
    · exact hall a hal
    · rw [← h] at hne2 hB
      generalize nextC l a = c at hne hcl hA hne2 hB
      by_cases hab : a = b
      · exact hab
      · exfalso
        obtain ⟨_, dx, dy, e, he, hdd, hcone⟩ := ha
        obtain ⟨_, dx', dy', e', he', hdd', hcone'⟩ := hb
        have h1 := hA b hbl
        have h2 := hB a hal
        have hsum : CR b c a = -(CR a c b) := by
          unfold CR cr
          grind
        have hz : CR a c b = 0 := by omega
        have hz2 : CR b c a = 0 := by omega
        have s1 := h1.2 hz
        have hba : b ≠ a := fun hh => hab hh.symm
        have c1 := hcone b hbl hba
        have c2 := hcone c hcl hne
        have c3 := hcone' a hal hab
        have c4 := hcone' c hcl hne2
        have d1 := c_dot he hdd c1 c2 (show cr (b.f0 - a.f0) (b.f1 - a.f1) (c.f0 - a.f0) (c.f1 - a.f1) = 0 by unfold CR cr at hz; unfold cr; grind)
        have d2 := c_dot he' hdd' c3 c4 (show cr (a.f0 - b.f0) (a.f1 - b.f1) (c.f0 - b.f0) (c.f1 - b.f1) = 0 by unfold CR cr at hz2; unfold cr; grind)
        have p1 := SQ_pos hba
        unfold SQ at s1 p1
        refine one_before (b.f0 - a.f0) (b.f1 - a.f1) (c.f0 - a.f0) (c.f1 - a.f1) hz d1 ?_ s1 p1
        grind
/-! The corners one after the other. -/
def corner (l : List S30) (s : S30) : Nat → S30
  | 0 => s
  | j + 1 => nextC l (corner l s j)
theorem corner_is {l : List S30} (hl : AllOk l) {s : S30} (hs : Corner l s) : ∀ j, Corner l (corner l s j)
  | 0 => hs
  | j + 1 => nextC_corner hl (corner_is hl hs j)
theorem pigeon {α : Type} (f : Nat → α) : ∀ (l : List α), (∀ j, j ≤ l.length → f j ∈ l) → ∃ i j, i < j ∧ j ≤ l.length ∧ f i = f j := by
  classical
  intro l h
  by_cases hx : ∃ i j, i < j ∧ j ≤ l.length ∧ f i = f j
  · exact hx
  · exfalso
    have inj : ∀ i j, i ≤ l.length → j ≤ l.length → f i = f j → i = j := by
      intro i j hi hj e
      rcases Nat.lt_trichotomy i j with h1 | h1 | h1
      · exact absurd ⟨i, j, h1, hj, e⟩ hx
      · exact h1
      · exact absurd ⟨j, i, h1, hi, e.symm⟩ hx
    have nd : ((List.range (l.length + 1)).map f).Nodup := by
      rw [List.nodup_iff_pairwise_ne, List.pairwise_map]
      refine List.Pairwise.imp_of_mem ?_ List.nodup_range
      intro a b ha hb hab e
      exact hab (inj a b (by have := List.mem_range.1 ha; omega) (by have := List.mem_range.1 hb; omega) e)
    have sub : ((List.range (l.length + 1)).map f) ⊆ l := by
      intro x hx
      obtain ⟨j, hj, rfl⟩ := List.mem_map.1 hx
      exact h j (by have := List.mem_range.1 hj; omega)
    have := List.Nodup.length_le_of_subset nd sub
    simp at this
    omega
/-- One comes back to the first corner, by no more steps than there are points. -/
theorem comes_back {l : List S30} (hl : AllOk l) {s : S30} (hs : Corner l s) : ∃ j, 0 < j ∧ j ≤ l.length ∧ corner l s j = s := by
  obtain ⟨i, j, hij, hj, e⟩ := pigeon (corner l s) l (fun j _ => (corner_is hl hs j).1)
  have back : ∀ t i j, i + t = j → corner l s i = corner l s j → corner l s 0 = corner l s t := by
    intro t i
    induction i with
    | zero =>
      intro j h e
      rw [e, ← h, Nat.zero_add]
    | succ i ih =>
      intro j h e
      refine ih (j - 1) (by omega) ?_
      obtain ⟨j, rfl⟩ : ∃ m, j = m + 1 := ⟨j - 1, by omega⟩
      exact nextC_inj hl (corner_is hl hs i) (corner_is hl hs j) e
  exact ⟨j - i, by omega, by omega, (back (j - i) i j (by omega) e).symm⟩
theorem first_back {l : List S30} (hl : AllOk l) {s : S30} (hs : Corner l s) : ∃ m, m < l.length ∧ corner l s (m + 1) = s ∧ ∀ j, j < m → corner l s (j + 1) ≠ s := by
  obtain ⟨j, h0, h1, h2⟩ := comes_back hl hs
  have least : ∀ n, (∃ m, m < n ∧ corner l s (m + 1) = s) → ∃ m, m < n ∧ corner l s (m + 1) = s ∧ ∀ j, j < m → corner l s (j + 1) ≠ s := by
    intro n
    induction n with
    | zero => rintro ⟨m, hm, _⟩; omega
    | succ n ih =>
      rintro ⟨m, hm, e⟩
      by_cases hx : ∃ m, m < n ∧ corner l s (m + 1) = s
      · obtain ⟨m', a, b, c⟩ := ih hx
        exact ⟨m', by omega, b, c⟩
      · refine ⟨m, hm, e, fun j hj ej => hx ⟨j, by omega, ej⟩⟩
  exact least l.length ⟨j - 1, by omega, by rw [show j - 1 + 1 = j by omega]; exact h2⟩

theorem impl_ValidPoint_eq (x y : Int) : impl_ValidPoint.f x y = some (okP x y) := by
  unfold impl_ValidPoint.f
  simp only [impl_within_eq]
  rw [Option.bind_some]
  exact ok_bind x y _ (fun _ => rfl)
theorem impl_validPoints_loop (l : List S30) (hl : l.length ≤ 9223372036854775806) : ∀ (d k : Nat) (i : Nat), l.length - i ≤ d → d < k → impl_validPoints.l0 k l (l.length : Int) i = some ((l.drop i).all fun s => okP s.f0 s.f1)
  | d, 0, i, h1, h2 => absurd h2 (by omega)
  | d, k + 1, i, h1, h2 => by
    simp only [impl_validPoints.l0, impl_ValidPoint_eq, Option.bind_some]
    by_cases h : i < l.length
    · rw [if_pos (by omega), if_pos (by omega), if_pos (by omega), w64 (by omega) (by omega), show ((i : Int) + 1) = ((i + 1 : Nat) : Int) by omega, impl_validPoints_loop l hl (d - 1) k (i + 1) (by omega) (by omega), List.drop_eq_getElem_cons h, List.all_cons]
      have e : rd_T30 l (i : Int) = l[i] := by
        unfold rd_T30
        rw [Int.toNat_natCast, List.getD_eq_getElem?_getD, List.getElem?_eq_getElem h]
        rfl
      rw [e]
      cases okP (l[i]).f0 (l[i]).f1 <;> simp
    · rw [if_neg (by omega), List.drop_eq_nil_of_le (by omega)]
      rfl
theorem impl_validPoints_eq (l : List S30) (hl : l.length ≤ 9223372036854775806) (k : Nat) (hk : l.length < k) : impl_validPoints.f k l = some (l.all fun s => okP s.f0 s.f1) := by
  unfold impl_validPoints.f
  exact impl_validPoints_loop l hl l.length k 0 (by omega) hk

theorem spec_l02Ok_eq (x y : Int) : spec_l02Ok.f x y = some (okP x y) := by
  unfold spec_l02Ok.f
  simp only [spec_l00In_eq]
  rw [Option.bind_some]
  exact ok_bind x y _ (fun _ => rfl)

/-- The law's points as the program's. -/
def conv (l : List S24) : List S30 := l.map fun s => ⟨s.f0, s.f1⟩
theorem conv_length (l : List S24) : (conv l).length = l.length := by
  unfold conv
  rw [List.length_map]
theorem sz_small (l : List S24) (h : l.length ≤ 1048576) : laws_szPointS.f l 1048576 = some (1048576 - (l.length : Int)) := by
  unfold laws_szPointS.f
  rw [w64 (by omega) (by omega), if_neg (by omega)]
theorem sz_large (l : List S24) (hm : l.length ≤ 9223372036854775807) (h : 1048576 < l.length) : laws_szPointS.f l 1048576 = some (-1) := by
  unfold laws_szPointS.f
  rw [w64 (by omega) (by omega), if_pos (by omega)]
theorem rdLN (l : List S24) (j : Nat) : rd_T24 l (j : Int) = l.getD j z24 := by
  unfold rd_T24
  rw [Int.toNat_natCast]
theorem toPointS_loop (l : List S24) (h : l.length ≤ 1048576) : ∀ (d k i : Nat) (x : List S30), i ≤ l.length → l.length - i ≤ d → d < k → x.length = l.length → laws_toPointS.l0 k l x i = some (x.take i ++ (conv l).drop i)
  | d, 0, i, x, _, _, h2, _ => absurd h2 (by omega)
  | d, k + 1, i, x, h0, h1, h2, hx => by
    simp only [laws_toPointS.l0, laws_toPoint.f]
    by_cases hi : i < l.length
    · rw [if_pos (by omega), if_pos (by omega), Option.bind_some, if_pos (by omega), w1 (by omega), toPointS_loop l h (d - 1) k (i + 1) _ (by omega) (by omega) (by omega) (by rw [List.length_set, hx]), rdLN]
      have e : l.getD i z24 = l[i] := by
        rw [List.getD_eq_getElem?_getD, List.getElem?_eq_getElem hi]
        rfl
      rw [e, Int.toNat_natCast, List.take_succ_eq_append_getElem (by rw [List.length_set, hx]; exact hi), List.getElem_set_self, List.take_set_of_le (Nat.le_refl _), List.append_assoc]
      congr 2
      rw [List.drop_eq_getElem_cons (i := i) (by rw [conv_length]; exact hi)]
      unfold conv
      rw [List.getElem_map]
      rfl
    · rw [if_neg (by omega), List.take_of_length_le (by omega), List.drop_eq_nil_of_le (by rw [conv_length]; omega), List.append_nil]
theorem toPointS_eq (l : List S24) (h : l.length ≤ 1048576) (k : Nat) (hk : l.length < k) : laws_toPointS.f k l = some (conv l) := by
  unfold laws_toPointS.f
  rw [if_pos (by omega), if_pos (by omega)]
  have := toPointS_loop l h l.length k 0 (List.replicate ((l.length : Int) : Int).toNat z30) (by omega) (by omega) hk (by rw [List.length_replicate, Int.toNat_natCast])
  simp only [Int.natCast_zero] at this
  rw [this, List.take_zero, List.nil_append, List.drop_zero]
theorem eqPoint_self (x y : Int) : laws_eqPoint.f x y x y = some true := by
  unfold laws_eqPoint.f
  rw [if_pos rfl, if_pos rfl]
theorem eqPointS_loop (l : List S30) (h : l.length ≤ 1000000000) : ∀ (d k i : Nat), l.length - i ≤ d → d < k → laws_eqPointS.l0 k l l i = some true
  | d, 0, i, _, h2 => absurd h2 (by omega)
  | d, k + 1, i, h1, h2 => by
    simp only [laws_eqPointS.l0]
    by_cases hi : i < l.length
    · rw [if_pos (by omega), if_pos (by omega), if_pos (by omega), eqPoint_self, Option.bind_some, if_pos rfl, w1 (by omega)]
      exact eqPointS_loop l h (d - 1) k (i + 1) (by omega) (by omega)
    · rw [if_neg (by omega)]
theorem eqPointS_self (l : List S30) (h : l.length ≤ 1000000000) (k : Nat) (hk : l.length < k) : laws_eqPointS.f k l l = some true := by
  unfold laws_eqPointS.f
  rw [if_pos rfl]
  exact eqPointS_loop l h l.length k 0 (by omega) hk

theorem back_eq (l : List S24) (h : l.length ≤ 1048576) (k : Nat) (hk : l.length < k) : ((laws_toPointS.f k l).bind fun t => (laws_eqPointS.f k (conv l) t).bind fun b => if b = true then some true else some false) = some true := by
  rw [toPointS_eq l h k hk, Option.bind_some, eqPointS_self (conv l) (by rw [conv_length]; omega) k (by rw [conv_length]; omega)]
  rfl

theorem p_ext {x y : S30} (h0 : x.f0 = y.f0) (h1 : x.f1 = y.f1) : x = y := by
  cases x
  cases y
  simp_all
theorem getD_set_self (x : List S30) (i : Nat) (v : S30) (h : i < x.length) : (x.set i v).getD i z30 = v := by
  rw [List.getD_eq_getElem?_getD, List.getElem?_set_self h]
  rfl
theorem getD_set_ne (x : List S30) (i j : Nat) (v : S30) (h : i ≠ j) : (x.set i v).getD j z30 = x.getD j z30 := by
  rw [List.getD_eq_getElem?_getD, List.getElem?_set_ne h, List.getD_eq_getElem?_getD]
theorem mark_loop (n : Nat) (hn : n ≤ 1000000000) : ∀ (d k i : Nat) (x : List S30), x.length = n → i ≤ n → n - i ≤ d → d < k → (∀ j, j < i → x.getD j z30 = ⟨1 + 2 * (j : Int), 1 + 2 * (j : Int) + 1⟩) →
    ∃ m : List S30, laws_markPointS.l0 k x (1 + 2 * (i : Int)) i = some (1 + 2 * (n : Int), m) ∧ m.length = n ∧ ∀ j, j < n → m.getD j z30 = ⟨1 + 2 * (j : Int), 1 + 2 * (j : Int) + 1⟩
  | d, 0, i, x, _, _, _, h, _ => absurd h (by omega)
  | d, k + 1, i, x, hx, hi, h1, h2, hm => by
    simp only [laws_markPointS.l0]
    by_cases hlt : i < n
    · rw [if_pos (by omega), if_pos (by omega), Option.bind_some, Int.toNat_natCast, rdN, rdN, getD_set_self x i _ (by omega), w1 (by omega), w64 (x := 1 + 2 * (i : Int) + 1) (by omega) (by omega), w64 (x := 1 + 2 * (i : Int) + 1 + 1) (by omega) (by omega)]
      have := mark_loop n hn (d - 1) k (i + 1) ((x.set i ⟨1 + 2 * (i : Int), (x.getD i z30).f1⟩).set i ⟨1 + 2 * (i : Int), 1 + 2 * (i : Int) + 1⟩) (by simp [hx]) (by omega) (by omega) (by omega) (fun j hj => by
        by_cases e : i = j
        · subst e
          rw [getD_set_self _ _ _ (by simp; omega)]
        · rw [getD_set_ne _ _ _ _ e, getD_set_ne _ _ _ _ e]
          exact hm j (by omega))
      rw [show (1 + 2 * (i : Int) + 1 + 1) = 1 + 2 * ((i + 1 : Nat) : Int) by omega]
      exact this
    · have e : i = n := by omega
      subst e
      exact ⟨x, by rw [if_neg (by omega)], hx, hm⟩
theorem held_loop (n : Nat) (hn : n ≤ 1000000000) (m : List S30) (hl : m.length = n) (hm : ∀ j, j < n → m.getD j z30 = ⟨1 + 2 * (j : Int), 1 + 2 * (j : Int) + 1⟩) : ∀ (d k i : Nat), i ≤ n → n - i ≤ d → d < k → laws_heldPointS.l0 k m (1 + 2 * (i : Int)) i = some (1 + 2 * (n : Int))
  | d, 0, i, _, _, h => absurd h (by omega)
  | d, k + 1, i, hi, h1, h2 => by
    simp only [laws_heldPointS.l0]
    by_cases hlt : i < n
    · rw [if_pos (by omega), if_pos (by omega), rdN, hm i hlt, if_pos rfl, w64 (x := 1 + 2 * (i : Int) + 1) (by omega) (by omega), if_pos rfl, w1 (by omega), w64 (x := 1 + 2 * (i : Int) + 1 + 1) (by omega) (by omega), show (1 + 2 * (i : Int) + 1 + 1) = 1 + 2 * ((i + 1 : Nat) : Int) by omega]
      exact held_loop n hn m hl hm (d - 1) k (i + 1) (by omega) (by omega) (by omega)
    · rw [if_neg (by omega), show i = n by omega]
/-- What is marked is held. -/
theorem mark_held (x : List S30) (hn : x.length ≤ 1000000000) : ∃ (n : Int) (m : List S30), 0 < n ∧ (∀ k, x.length < k → laws_markPointS.f k x 1 = some (n, m)) ∧ (∀ k, x.length < k → laws_heldPointS.f k m 1 = some n) := by
  obtain ⟨m, h1, h2, h3⟩ := mark_loop x.length hn x.length (x.length + 1) 0 x rfl (by omega) (by omega) (by omega) (fun j hj => absurd hj (by omega))
  refine ⟨1 + 2 * (x.length : Int), m, by omega, fun k hk => ?_, fun k hk => ?_⟩
  · unfold laws_markPointS.f
    exact at_rounds (fun k => laws_markPointS.mono_l k _ _ _) (show x.length + 1 ≤ k by omega) h1
  · unfold laws_heldPointS.f
    exact held_loop x.length hn m h2 h3 x.length k 0 (by omega) (by omega) hk

/-- The lowest point, the leftmost of several. -/
def mnW (c q : S30) : S30 := if q.f1 < c.f1 then q else if q.f1 = c.f1 then (if q.f0 < c.f0 then q else c) else c
theorem mnW_self (c : S30) : mnW c c = c := by
  unfold mnW
  rw [if_neg (by omega), if_pos rfl, if_neg (by omega)]
def LexLe (a b : S30) : Prop := a.f1 < b.f1 ∨ (a.f1 = b.f1 ∧ a.f0 ≤ b.f0)
theorem mnW_le (c q : S30) : LexLe (mnW c q) c ∧ LexLe (mnW c q) q ∧ (mnW c q = c ∨ mnW c q = q) := by
  unfold mnW LexLe
  split
  · exact ⟨by omega, by omega, .inr rfl⟩
  · split
    · split
      · exact ⟨by omega, by omega, .inr rfl⟩
      · exact ⟨by omega, by omega, .inl rfl⟩
    · exact ⟨by omega, by omega, .inl rfl⟩
theorem LexLe_trans {a b c : S30} (h1 : LexLe a b) (h2 : LexLe b c) : LexLe a c := by
  unfold LexLe at *
  omega
theorem min_all : ∀ (l : List S30) (c : S30), LexLe (l.foldl mnW c) c ∧ (∀ q, q ∈ l → LexLe (l.foldl mnW c) q) ∧ (l.foldl mnW c = c ∨ l.foldl mnW c ∈ l)
  | [], c => ⟨.inr ⟨rfl, Int.le_refl _⟩, fun q hq => by simp at hq, .inl rfl⟩
  | x :: l, c => by
    obtain ⟨h1, h2, h3⟩ := min_all l (mnW c x)
    obtain ⟨g1, g2, g3⟩ := mnW_le c x
    refine ⟨LexLe_trans h1 g1, fun q hq => ?_, ?_⟩
    · rcases List.mem_cons.1 hq with rfl | hq
      · exact LexLe_trans h1 g2
      · exact h2 q hq
    · rcases h3 with h3 | h3
      · rw [List.foldl_cons, h3]
        rcases g3 with g3 | g3
        · exact .inl g3
        · rw [g3]
          exact .inr (List.mem_cons_self)
      · exact .inr (List.mem_cons_of_mem _ h3)
theorem min_corner {l : List S30} {s : S30} (hs : s ∈ l) (h : ∀ q, q ∈ l → LexLe s q) : Corner l s := by
  refine ⟨hs, 1, 0, 1, .inl rfl, by omega, fun q hq hne => ⟨?_, fun h0 => ?_⟩⟩
  · have := h q hq
    unfold LexLe at this
    omega
  · have := h q hq
    unfold LexLe at this
    have hx : q.f0 ≠ s.f0 := fun hx => hne (q_ext hx (by omega))
    omega
theorem drop_getD {l : List S30} {i : Nat} (h : i < l.length) : l.drop i = l.getD i z30 :: l.drop (i + 1) := by
  rw [List.drop_eq_getElem_cons h, List.getD_eq_getElem?_getD, List.getElem?_eq_getElem h]
  rfl
/-! The reference. -/
def fin (o : List S30) : List S30 × Int := if (o.length : Int) < 3 then ([], 6) else (o, 0)
theorem spec_inner (l : List S30) (hn : l.length ≤ 24) (o : List S30) (s a : S30) : ∀ (d k i : Nat) (c : S30), l.length - i = d → spec_HullOf.l3 (k + d + 1) l o i s.f0 s.f1 a.f0 a.f1 c.f0 c.f1 =
    if (o.length : Int) > l.length then some (fin o) else spec_HullOf.l2 k l o s.f0 s.f1 ((l.drop i).foldl (nxtW a) c).f0 ((l.drop i).foldl (nxtW a) c).f1 := by
  intro d
  induction d with
  | zero =>
    intro k i c hi
    simp only [spec_HullOf.l3]
    rw [if_neg (by omega), List.drop_eq_nil_of_le (by omega)]
    unfold fin
    simp only [List.foldl_nil]
    split
    · split <;> rfl
    · rfl
  | succ d ih =>
    intro k i c hi
    have hlt : i < l.length := by omega
    have hk : k + (d + 1) + 1 = (k + d + 1) + 1 := by omega
    rw [hk]
    generalize hm_ : k + d + 1 = m_
    simp only [spec_HullOf.l3, spec_side_eq, spec_square_eq, Option.bind_some]
    subst hm_
    rw [if_pos (by omega), if_pos (by omega), rdN, w1 (by omega), drop_getD hlt, List.foldl_cons]
    have step := ih k (i + 1) (nxtW a c (l.getD i z30)) (by omega)
    rw [← step]
    unfold nxtW betterW eqQ
    generalize l.getD i z30 = q
    by_cases e : (c.f0 == a.f0 && (c.f1 == a.f1)) = true
    · rw [if_pos e, if_pos e]
    · rw [if_neg e, if_neg e]
      by_cases h1 : sideW a.f0 a.f1 c.f0 c.f1 q.f0 q.f1 < 0
      · rw [if_pos h1, if_pos (by simp [h1])]
      · rw [if_neg h1]
        by_cases h2 : sideW a.f0 a.f1 c.f0 c.f1 q.f0 q.f1 = 0
        · rw [if_pos h2]
          by_cases h3 : sqW a.f0 a.f1 q.f0 q.f1 > sqW a.f0 a.f1 c.f0 c.f1
          · rw [if_pos h3, if_pos (by simp [h1, h2, h3])]
          · rw [if_neg h3, if_neg (by simp [h1, h2]; omega)]
        · rw [if_neg h2, if_neg (by simp [h1, h2])]
/-- The corners so far. -/
def pre (l : List S30) (s : S30) (j : Nat) : List S30 := (List.range j).map (corner l s)
theorem pre_length (l : List S30) (s : S30) (j : Nat) : (pre l s j).length = j := by
  unfold pre
  rw [List.length_map, List.length_range]
theorem pre_succ (l : List S30) (s : S30) (j : Nat) : pre l s (j + 1) = pre l s j ++ [corner l s j] := by
  unfold pre
  rw [List.range_succ, List.map_append]
  rfl
theorem spec_outer {l : List S30} (hn : l.length ≤ 24) {s : S30} {m : Nat} (hm : m < l.length) (hb : corner l s (m + 1) = s) (hf : ∀ j, j < m → corner l s (j + 1) ≠ s) : ∀ (t j : Nat), j + t = m + 1 → ∃ K, ∀ k, K ≤ k → spec_HullOf.l2 k l (pre l s j) s.f0 s.f1 (corner l s j).f0 (corner l s j).f1 = some (fin (pre l s (m + 1))) := by
  intro t
  induction t with
  | zero =>
    intro j hj
    have : j = m + 1 := by omega
    subst this
    refine ⟨2, fun k hk => ?_⟩
    obtain ⟨k, rfl⟩ : ∃ n, k = n + 2 := ⟨k - 2, by omega⟩
    simp only [spec_HullOf.l2, spec_HullOf.j3]
    rw [pre_length, if_neg (by omega), hb]
    simp only [beq_self_eq_true, Bool.not_true, Bool.or_self, Bool.false_eq_true, if_false]
    unfold fin
    rw [pre_length]
    split <;> rfl
  | succ t ih =>
    intro j hj
    obtain ⟨K, hK⟩ := ih (j + 1) (by omega)
    refine ⟨K + l.length + 3, fun k hk => ?_⟩
    obtain ⟨k, rfl⟩ : ∃ n, k = n + l.length + 3 := ⟨k - l.length - 3, by omega⟩
    have inner := spec_inner l hn (pre l s (j + 1)) s (corner l s j) l.length k 0 (corner l s j) (by omega)
    rw [pre_length, if_neg (by omega), List.drop_zero] at inner
    have e1 : spec_HullOf.j3 (k + l.length + 2) l (pre l s j) true s.f0 s.f1 (corner l s j).f0 (corner l s j).f1 = some (fin (pre l s (m + 1))) := by
      simp only [spec_HullOf.j3, if_true]
      rw [if_pos (by rw [pre_length]; omega)]
      have e2 : pre l s j ++ [(⟨(corner l s j).f0, (corner l s j).f1⟩ : S30)] = pre l s (j + 1) := (pre_succ l s j).symm
      rw [e2]
      exact inner.trans (hK k (by omega))
    have hk2 : k + l.length + 3 = (k + l.length + 2) + 1 := by omega
    rw [hk2]
    simp only [spec_HullOf.l2]
    by_cases h0 : ((pre l s j).length : Int) = 0
    · rw [if_pos h0]
      exact e1
    · rw [if_neg h0]
      have hne : corner l s j ≠ s := by
        rw [pre_length] at h0
        obtain ⟨i, rfl⟩ : ∃ i, j = i + 1 := ⟨j - 1, by omega⟩
        exact hf i (by omega)
      have e3 : (!((corner l s j).f0 == s.f0) || (!((corner l s j).f1 == s.f1))) = true := by
        cases h1 : (corner l s j).f0 == s.f0 with
        | false => rfl
        | true =>
          cases h2 : (corner l s j).f1 == s.f1 with
          | false => rfl
          | true => exact absurd (q_ext (beq_iff_eq.1 h1) (beq_iff_eq.1 h2)) hne
      rw [e3]
      exact e1
/-! The program. -/
theorem impl_inner (l : List S30) (hl : AllOk l) (hn : l.length ≤ 24) (o : List S30) (s a : S30) (ha : a ∈ l) : ∀ (d k i : Nat) (f : Bool) (nx c : S30), l.length - i = d → c ∈ l → ((f = false ∧ c = a) ∨ (f = true ∧ c = nx ∧ nx ≠ a)) → impl_HullOf.l2 (k + d + 1) l o f l (l.length : Int) i s.f0 s.f1 a.f0 a.f1 nx.f0 nx.f1 =
    if eqQ ((l.drop i).foldl (nxtW a) c) a = true then some (fin o) else if eqQ ((l.drop i).foldl (nxtW a) c) s = true then some (fin o) else if (o.length : Int) > 24 then some (fin o) else if o.length < 8796093022208 then impl_HullOf.l1 k l (o ++ [(l.drop i).foldl (nxtW a) c]) s.f0 s.f1 else none := by
  intro d
  induction d with
  | zero =>
    intro k i f nx c hi hc hr
    simp only [impl_HullOf.l2]
    rw [if_neg (by omega), List.drop_eq_nil_of_le (by omega), List.foldl_nil]
    rcases hr with ⟨rfl, rfl⟩ | ⟨rfl, rfl, hne⟩
    · rw [if_neg (by simp), if_pos ((eqQ_iff _ _).2 rfl)]
      unfold fin
      split <;> rfl
    · rw [if_pos rfl, if_neg (fun h => hne ((eqQ_iff _ _).1 h))]
      unfold fin eqQ
      split
      · split <;> rfl
      · split
        · split <;> rfl
        · rfl
  | succ d ih =>
    intro k i f nx c hi hc hr
    have hlt : i < l.length := by omega
    have hk : k + (d + 1) + 1 = (k + d + 1) + 1 := by omega
    rw [hk]
    generalize hm_ : k + d + 1 = m_
    simp only [impl_HullOf.l2, impl_side_eq, impl_squared_eq, Option.bind_some]
    subst hm_
    rw [if_pos (by omega), if_pos (by omega), if_pos (by omega), rdN, w1 (by omega), drop_getD hlt, List.foldl_cons]
    have hql : l.getD i z30 ∈ l := by
      rw [List.getD_eq_getElem?_getD, List.getElem?_eq_getElem hlt]
      exact List.getElem_mem hlt
    generalize l.getD i z30 = q at hql
    by_cases hqa : q = a
    · have e : (q.f0 == a.f0 && (q.f1 == a.f1)) = true := (eqQ_iff q a).2 hqa
      rw [if_pos e]
      rcases hr with ⟨rfl, rfl⟩ | ⟨rfl, rfl, hne⟩
      · have : nxtW c c q = c := by
          unfold nxtW
          rw [if_pos ((eqQ_iff _ _).2 rfl), hqa]
        rw [this]
        exact ih k (i + 1) false nx c (by omega) hc (.inl ⟨rfl, rfl⟩)
      · have : nxtW a c q = c := by
          unfold nxtW
          rw [if_neg (fun h => hne ((eqQ_iff _ _).1 h)), if_neg]
          intro hb
          unfold betterW at hb
          rw [hqa, sqW_self] at hb
          have h1 := sideW_at a c
          rw [h1] at hb
          have h2 : 0 ≤ sqW a.f0 a.f1 c.f0 c.f1 := by
            rw [sqW_X _ _ _ _ (hl a ha) (hl c hc)]
            have := sq0 (c.f0 - a.f0)
            have := sq0 (c.f1 - a.f1)
            omega
          simp at hb
          omega
        rw [this]
        exact ih k (i + 1) true c c (by omega) hc (.inr ⟨rfl, rfl, hne⟩)
    · have e : ¬ (q.f0 == a.f0 && (q.f1 == a.f1)) = true := fun h => hqa ((eqQ_iff q a).1 h)
      rw [if_neg e]
      rcases hr with ⟨rfl, rfl⟩ | ⟨rfl, rfl, hne⟩
      · have : nxtW c c q = q := by
          unfold nxtW
          rw [if_pos ((eqQ_iff _ _).2 rfl)]
        rw [if_neg (by simp), this]
        exact ih k (i + 1) true q q (by omega) hql (.inr ⟨rfl, rfl, hqa⟩)
      · rw [if_pos rfl]
        have hx : nxtW a c q = if betterW a c q = true then q else c := by
          unfold nxtW
          rw [if_neg (fun h => hne ((eqQ_iff _ _).1 h))]
        have yes : betterW a c q = true → nxtW a c q = q := fun hb => by rw [hx, if_pos hb]
        have no : ¬ betterW a c q = true → nxtW a c q = c := fun hb => by rw [hx, if_neg hb]
        unfold betterW at yes no
        by_cases h1 : sideW a.f0 a.f1 c.f0 c.f1 q.f0 q.f1 < 0
        · rw [if_pos h1, yes (by simp [h1])]
          exact ih k (i + 1) true q q (by omega) hql (.inr ⟨rfl, rfl, hqa⟩)
        · rw [if_neg h1]
          by_cases h2 : sideW a.f0 a.f1 c.f0 c.f1 q.f0 q.f1 = 0
          · rw [if_pos h2]
            by_cases h3 : sqW a.f0 a.f1 q.f0 q.f1 > sqW a.f0 a.f1 c.f0 c.f1
            · rw [if_pos h3, yes (by simp [h1, h2, h3])]
              exact ih k (i + 1) true q q (by omega) hql (.inr ⟨rfl, rfl, hqa⟩)
            · rw [if_neg h3, no (by simp [h1, h2]; omega)]
              exact ih k (i + 1) true c c (by omega) hc (.inr ⟨rfl, rfl, hne⟩)
          · rw [if_neg h2, no (by simp [h1, h2])]
            exact ih k (i + 1) true c c (by omega) hc (.inr ⟨rfl, rfl, hne⟩)
theorem impl_outer {l : List S30} (hl : AllOk l) (hn : l.length ≤ 24) {s : S30} (hC : Corner l s) {m : Nat} (hm : m < l.length) (hb : corner l s (m + 1) = s) (hf : ∀ j, j < m → corner l s (j + 1) ≠ s) : ∀ (t j : Nat), j + t = m → ∃ K, ∀ k, K ≤ k → impl_HullOf.l1 k l (pre l s (j + 1)) s.f0 s.f1 = some (fin (pre l s (m + 1))) := by
  have zero : ∃ z : S30, z.f0 = 0 ∧ z.f1 = 0 := ⟨⟨0, 0⟩, rfl, rfl⟩
  obtain ⟨z, z0, z1⟩ := zero
  -- one round: the last corner, the search for the next one
  have round : ∀ (j k : Nat), j ≤ m → impl_HullOf.l1 (k + l.length + 2) l (pre l s (j + 1)) s.f0 s.f1 =
      if eqQ (corner l s (j + 1)) (corner l s j) = true then some (fin (pre l s (j + 1))) else if eqQ (corner l s (j + 1)) s = true then some (fin (pre l s (j + 1))) else impl_HullOf.l1 k l (pre l s (j + 2)) s.f0 s.f1 := by
    intro j k hj
    have inner := impl_inner l hl hn (pre l s (j + 1)) s (corner l s j) (corner_is hl hC j).1 l.length k 0 false z (corner l s j) (by omega) (corner_is hl hC j).1 (.inl ⟨rfl, rfl⟩)
    rw [pre_length, List.drop_zero, z0, z1] at inner
    have hk : k + l.length + 2 = (k + l.length + 1) + 1 := by omega
    rw [hk]
    simp only [impl_HullOf.l1]
    have e : wrap64 (((pre l s (j + 1)).length : Int) - 1) = ((j : Nat) : Int) := by
      rw [pre_length, w64 (by omega) (by omega)]
      omega
    have e2 : (pre l s (j + 1)).getD j z30 = corner l s j := by
      rw [pre_succ, List.getD_eq_getElem?_getD, List.getElem?_append_right (by rw [pre_length]; omega), pre_length, Nat.sub_self]
      rfl
    rw [e, if_pos (by omega), if_pos (by rw [pre_length]; omega), rdN, e2]
    refine inner.trans ?_
    rw [if_neg (show ¬ (((j + 1 : Nat) : Int) > 24) by omega), if_pos (show j + 1 < 8796093022208 by omega)]
    have e3 : pre l s (j + 1) ++ [l.foldl (nxtW (corner l s j)) (corner l s j)] = pre l s (j + 2) := (pre_succ l s (j + 1)).symm
    rw [e3]
    rfl
  intro t
  induction t with
  | zero =>
    intro j hj
    have : j = m := by omega
    subst this
    refine ⟨l.length + 2, fun k hk => ?_⟩
    obtain ⟨k, rfl⟩ : ∃ n, k = n + l.length + 2 := ⟨k - l.length - 2, by omega⟩
    rw [round j k (Nat.le_refl _), hb]
    split
    · rfl
    · rw [if_pos ((eqQ_iff _ _).2 rfl)]
  | succ t ih =>
    intro j hj
    obtain ⟨K, hK⟩ := ih (j + 1) (by omega)
    refine ⟨K + l.length + 2, fun k hk => ?_⟩
    obtain ⟨k, rfl⟩ : ∃ n, k = n + l.length + 2 := ⟨k - l.length - 2, by omega⟩
    rw [round j k (by omega)]
    have h1 := hf j (by omega)
    rw [if_neg, if_neg (fun h => h1 ((eqQ_iff _ _).1 h))]
    · exact hK k (by omega)
    · -- a corner that comes again at once stays for ever
      intro h
      have h2 : corner l s (j + 1) = corner l s j := (eqQ_iff _ _).1 h
      have stay : ∀ i, corner l s (j + i) = corner l s j := by
        intro i
        induction i with
        | zero => rfl
        | succ i ihi =>
          show nextC l (corner l s (j + i)) = corner l s j
          rw [ihi]
          exact h2
      have h3 := stay (m + 1 - j)
      rw [show j + (m + 1 - j) = m + 1 by omega, hb] at h3
      exact h1 (by rw [h2, ← h3])
theorem spec_start (l : List S30) (hn : l.length ≤ 24) : ∀ (d k i : Nat) (c : S30), l.length - i = d → spec_HullOf.l1 (k + d + 1) l i c.f0 c.f1 = spec_HullOf.l2 k l [] ((l.drop i).foldl mnW c).f0 ((l.drop i).foldl mnW c).f1 ((l.drop i).foldl mnW c).f0 ((l.drop i).foldl mnW c).f1 := by
  intro d
  induction d with
  | zero =>
    intro k i c hi
    simp only [spec_HullOf.l1]
    rw [if_neg (by omega), List.drop_eq_nil_of_le (by omega)]
    rfl
  | succ d ih =>
    intro k i c hi
    have hlt : i < l.length := by omega
    have hk : k + (d + 1) + 1 = (k + d + 1) + 1 := by omega
    rw [hk]
    generalize hm_ : k + d + 1 = m_
    simp only [spec_HullOf.l1]
    subst hm_
    rw [if_pos (by omega), if_pos (by omega), rdN, w1 (by omega), drop_getD hlt, List.foldl_cons]
    rw [← ih k (i + 1) (mnW c (l.getD i z30)) (by omega)]
    unfold mnW
    split
    · rfl
    · split
      · split <;> rfl
      · rfl
theorem impl_start (l : List S30) (hn : l.length ≤ 24) : ∀ (d k i : Nat) (c : S30), l.length - i = d → impl_HullOf.l0 (k + d + 1) l l (l.length : Int) i c.f0 c.f1 = impl_HullOf.l1 k l [(l.drop i).foldl mnW c] ((l.drop i).foldl mnW c).f0 ((l.drop i).foldl mnW c).f1 := by
  intro d
  induction d with
  | zero =>
    intro k i c hi
    simp only [impl_HullOf.l0]
    rw [if_neg (by omega), List.drop_eq_nil_of_le (by omega)]
    rfl
  | succ d ih =>
    intro k i c hi
    have hlt : i < l.length := by omega
    have hk : k + (d + 1) + 1 = (k + d + 1) + 1 := by omega
    rw [hk]
    generalize hm_ : k + d + 1 = m_
    simp only [impl_HullOf.l0]
    subst hm_
    rw [if_pos (by omega), if_pos (by omega), if_pos (by omega), rdN, w1 (by omega), drop_getD hlt, List.foldl_cons]
    rw [← ih k (i + 1) (mnW c (l.getD i z30)) (by omega)]
    unfold mnW
    split
    · rfl
    · split
      · split <;> rfl
      · rfl
theorem hull_ok_loop (l : List S30) (h : AllOk l) (hn : l.length ≤ 1048576) : ∀ (d k i : Nat), l.length - i = d → spec_HullOf.l0 (k + d + 1) l i = if 3 ≤ l.length ∧ l.length ≤ 24 then spec_HullOf.l1 k l 1 (l.getD 0 z30).f0 (l.getD 0 z30).f1 else some ([], 2) := by
  intro d
  induction d with
  | zero =>
    intro k i hi
    simp only [spec_HullOf.l0, spec_l00In_eq, Option.bind_some]
    have e : rd_T30 l 0 = l.getD 0 z30 := rdN l 0
    rw [if_neg (by omega), e]
    by_cases hc : 3 ≤ l.length ∧ l.length ≤ 24
    · rw [if_pos hc, decide_eq_true (by omega), if_pos rfl, if_pos (by omega)]
    · rw [if_neg hc, decide_eq_false (by omega), if_neg (by simp)]
  | succ d ih =>
    intro k i hi
    have hlt : i < l.length := by omega
    have hk : k + (d + 1) + 1 = (k + d + 1) + 1 := by omega
    rw [hk]
    generalize hm_ : k + d + 1 = m_
    simp only [spec_HullOf.l0, spec_l02Ok_eq, Option.bind_some]
    subst hm_
    rw [if_pos (by omega), if_pos (by omega), rdN, w1 (by omega)]
    have ho : okP (l.getD i z30).f0 (l.getD i z30).f1 = true := by
      rw [List.getD_eq_getElem?_getD, List.getElem?_eq_getElem hlt]
      exact h _ (List.getElem_mem hlt)
    rw [ho, if_pos rfl]
    exact ih k (i + 1) (by omega)
theorem hull_bad_loop (l : List S30) (hn : l.length ≤ 1048576) : ∀ (d k i : Nat), l.length - i ≤ d → d < k → ((l.drop i).all fun s => okP s.f0 s.f1) = false → spec_HullOf.l0 k l i = some ([], 1) := by
  intro d
  induction d with
  | zero =>
    intro k i hi hk h
    rw [List.drop_eq_nil_of_le (by omega)] at h
    cases h
  | succ d ih =>
    intro k i hi hk h
    by_cases hlt : i < l.length
    · obtain ⟨k, rfl⟩ : ∃ m, k = m + 1 := ⟨k - 1, by omega⟩
      simp only [spec_HullOf.l0, spec_l02Ok_eq, Option.bind_some]
      rw [if_pos (by omega), if_pos (by omega), rdN, w1 (by omega)]
      rw [drop_getD hlt, List.all_cons] at h
      cases ho : okP (l.getD i z30).f0 (l.getD i z30).f1 with
      | false => rw [if_neg (by simp)]
      | true =>
        rw [ho, Bool.true_and] at h
        rw [if_pos rfl]
        exact ih k (i + 1) (by omega) (by omega) h
    · rw [List.drop_eq_nil_of_le (by omega)] at h
      cases h
theorem hulls_eq (l : List S30) (hl : l.length ≤ 1048576) : ∃ (r : List S30 × Int) (K : Nat), r.1.length ≤ l.length ∧ (∀ k, K ≤ k → spec_HullOf.f k l = some r) ∧ (∀ k, K ≤ k → impl_HullOf.f k l = some r) := by
  cases hall : (l.all fun s => okP s.f0 s.f1) with
  | false =>
    refine ⟨([], 1), 1048578, by simp, fun k hk => ?_, fun k hk => ?_⟩
    · unfold spec_HullOf.f
      exact hull_bad_loop l hl l.length k 0 (by omega) (by omega) hall
    · unfold impl_HullOf.f
      rw [impl_validPoints_eq l (by omega) k (by omega), hall]
      rfl
  | true =>
    have hok : AllOk l := fun q hq => List.all_eq_true.1 hall q hq
    by_cases hc : 3 ≤ l.length ∧ l.length ≤ 24
    · have e0 : rd_T30 l 0 = l.getD 0 z30 := rdN l 0
      have h00 : l.drop 0 = l.getD 0 z30 :: l.drop 1 := drop_getD (by omega)
      have hfold : l.foldl mnW (l.getD 0 z30) = (l.drop 1).foldl mnW (l.getD 0 z30) := by
        have : l.foldl mnW (l.getD 0 z30) = (l.drop 0).foldl mnW (l.getD 0 z30) := by rw [List.drop_zero]
        rw [this, h00, List.foldl_cons, mnW_self]
      obtain ⟨m1, m2, m3⟩ := min_all l (l.getD 0 z30)
      have hsl : l.foldl mnW (l.getD 0 z30) ∈ l := by
        rcases m3 with m3 | m3
        · rw [m3, List.getD_eq_getElem?_getD, List.getElem?_eq_getElem (show 0 < l.length by omega)]
          exact List.getElem_mem _
        · exact m3
      have hC := min_corner hsl m2
      generalize hsd : l.foldl mnW (l.getD 0 z30) = s at hsl hC hfold
      obtain ⟨m, hm, hb, hf⟩ := first_back hok hC
      obtain ⟨K1, hK1⟩ := spec_outer hc.2 hm hb hf (m + 1) 0 (by omega)
      obtain ⟨K2, hK2⟩ := impl_outer hok hc.2 hC hm hb hf m 0 (by omega)
      refine ⟨fin (pre l s (m + 1)), K1 + K2 + 100, ?_, fun k hk => ?_, fun k hk => ?_⟩
      · unfold fin
        split
        · simp
        · rw [pre_length]
          omega
      · unfold spec_HullOf.f
        obtain ⟨k, rfl⟩ : ∃ n, k = n + l.length + 1 := ⟨k - l.length - 1, by omega⟩
        have := hull_ok_loop l hok hl l.length k 0 (by omega)
        simp only [Int.natCast_zero] at this
        rw [this, if_pos hc]
        obtain ⟨k, rfl⟩ : ∃ n, k = n + (l.length - 1) + 1 := ⟨k - (l.length - 1) - 1, by omega⟩
        have h1 := spec_start l hc.2 (l.length - 1) k 1 (l.getD 0 z30) rfl
        rw [← hfold] at h1
        refine h1.trans ?_
        exact hK1 k (by omega)
      · unfold impl_HullOf.f
        rw [impl_validPoints_eq l (by omega) k (by omega), hall, Option.bind_some, if_pos rfl, if_neg (by omega), if_neg (by omega), if_pos (by omega), e0]
        obtain ⟨k, rfl⟩ : ∃ n, k = n + l.length + 1 := ⟨k - l.length - 1, by omega⟩
        have h1 := impl_start l hc.2 l.length k 0 (l.getD 0 z30) (by omega)
        rw [List.drop_zero, hsd] at h1
        refine h1.trans ?_
        have h2 := hK2 k (by omega)
        rw [pre_succ] at h2
        exact h2
    · refine ⟨([], 2), l.length + 1, by simp, fun k hk => ?_, fun k hk => ?_⟩
      · unfold spec_HullOf.f
        obtain ⟨k, rfl⟩ : ∃ n, k = n + l.length + 1 := ⟨k - l.length - 1, by omega⟩
        have := hull_ok_loop l hok hl l.length k 0 (by omega)
        simp only [Int.natCast_zero] at this
        rw [this, if_neg hc]
      · unfold impl_HullOf.f
        rw [impl_validPoints_eq l (by omega) k (by omega), hall, Option.bind_some, if_pos rfl]
        by_cases h3 : (l.length : Int) < 3
        · rw [if_pos h3]
        · rw [if_neg h3, if_pos (by omega)]
theorem FnExactHullOf (l : List S24) (hl : l.length ≤ maxLen) (hg : ∀ x ∈ l, (Lit.int .i64 x.f0).wf = true ∧ (Lit.int .i64 x.f1).wf = true) : ∃ k, laws_FnExactHullOf.f k l = some true := by
  unfold maxLen at hl
  by_cases hs : l.length ≤ 1048576
  · obtain ⟨⟨g0, g1⟩, K, hr, h1, h2⟩ := hulls_eq (conv l) (by rw [conv_length]; exact hs)
    rw [conv_length] at hr
    have hr : g0.length ≤ l.length := hr
    obtain ⟨n0, m0, hn0, a1, a2⟩ := mark_held (conv l) (by rw [conv_length]; omega)
    obtain ⟨n1, m1, hn1, b1, b2⟩ := mark_held g0 (by omega)
    rw [conv_length] at a1
    have e1 := fun k (hk : l.length < k) => toPointS_eq l hs k hk
    have e2 := fun k (hk : l.length < k) => eqPointS_self (conv l) (by rw [conv_length]; omega) k (by rw [conv_length]; exact hk)
    have e3 := fun k (hk : l.length < k) => eqPointS_self g0 (by omega) k (by omega)
    have b1' := fun k (hk : l.length < k) => b1 k (by omega)
    have b2' := fun k (hk : l.length < k) => b2 k (by omega)
    have q0 : ¬ n0 < 0 := by omega
    have q1 : ¬ n1 < 0 := by omega
    have q2 : ¬ (1048576 - (l.length : Int)) < 0 := by omega
    obtain ⟨B, hB⟩ : ∃ B : Nat, 1048578 + K ≤ B := ⟨_, Nat.le_refl _⟩
    refine ⟨B + 3, ?_⟩
    unfold laws_FnExactHullOf.f
    rw [sz_small l hs, Option.bind_some, if_neg q2, e1 (B + 3) (by omega), Option.bind_some]
    rw [h1 (B + 3) (by omega), Option.bind_some, Option.bind_some, h2 (B + 3) (by omega), Option.bind_some]
    try dsimp only
    rw [e3 (B + 3) (by omega), Option.bind_some, if_pos rfl]
    simp only [laws_FnExactHullOf.j0, bne_self_eq_false, Bool.false_eq_true, if_false]
    rw [e1 (B + 2) (by omega), Option.bind_some, e2 (B + 2) (by omega), Option.bind_some, if_pos rfl, a1 (B + 2) (by omega), Option.bind_some]
    try dsimp only
    rw [if_neg q0, e3 (B + 2) (by omega), Option.bind_some, if_pos rfl]
    simp only [laws_FnExactHullOf.j1, bne_self_eq_false, Bool.false_eq_true, if_false]
    rw [b1' (B + 1) (by omega), Option.bind_some]
    try dsimp only
    rw [b2' (B + 1) (by omega), Option.bind_some, if_neg q1, if_pos rfl, e1 (B + 1) (by omega), Option.bind_some, h2 (B + 1) (by omega), Option.bind_some]
    try dsimp only
    rw [e3 (B + 1) (by omega), Option.bind_some, if_pos rfl]
    simp only [laws_FnExactHullOf.j2, bne_self_eq_false, Bool.false_eq_true, if_false]
    rw [b2' B (by omega), Option.bind_some, if_neg q1, if_pos rfl]
  · refine ⟨0, ?_⟩
    unfold laws_FnExactHullOf.f
    rw [sz_large l hl (by omega)]
    rfl

end Go.Proofs.Ytkobmkdjmpnojaa.Pure
