/- Plain facts that the proofs of this seat use. -/
import Derived.Test.YtnnchaggdnlfmaaMaGeoC
/-! The middle of a chord lies inside just where the chord begins in the corner. -/
namespace Go.Proofs.Ytnnchaggdnlfmaa.Geo
set_option linter.unusedVariables false
set_option linter.unusedSimpArgs false
/-! ### Doubled -/
def sc (p : Pt) : Pt := (2 * p.1, 2 * p.2)
def md (a b : Pt) : Pt := (a.1 + b.1, a.2 + b.2)
theorem cr_sc (a b c : Pt) : cr (sc a) (sc b) (sc c) = 4 * cr a b c := by unfold cr sc; simp only; grind
theorem cr_md1 (a b c : Pt) : cr (sc a) (md a b) (sc c) = 2 * cr a b c := by unfold cr sc md; simp only; grind
theorem cr_md2 (a b c : Pt) : cr (sc a) (sc c) (md a b) = 2 * cr a c b := by unfold cr sc md; simp only; grind
theorem cr_md3 (a b p q : Pt) : cr (sc p) (sc q) (md a b) = 2 * (cr p q a + cr p q b) := by unfold cr sc md; simp only; grind
theorem ht_sc (a : Pt) : ht (sc a) = 2 * ht a := by unfold ht sc; simp only; omega
theorem ht_md (a b : Pt) : ht (md a b) = ht a + ht b := by unfold ht md; simp only; omega
theorem btw_sc {a b p : Int} : Btw (2 * a) (2 * b) (2 * p) ↔ Btw a b p := by unfold Btw; omega
theorem on_sc {a b p : Pt} : On (sc a) (sc b) (sc p) ↔ On a b p := by
  unfold On
  rw [cr_sc]
  unfold sc
  simp only [btw_sc]
  constructor
  · rintro ⟨h, k⟩; exact ⟨by omega, k⟩
  · rintro ⟨h, k⟩; exact ⟨by omega, k⟩
theorem mul4 {x y : Int} : (4 * x) * (4 * y) < 0 ↔ x * y < 0 := by
  have : (4 * x) * (4 * y) = 16 * (x * y) := by grind
  omega
theorem crs_sc {a b c d : Pt} : Crs (sc a) (sc b) (sc c) (sc d) ↔ Crs a b c d := by
  unfold Crs
  rw [cr_sc, cr_sc, cr_sc, cr_sc, mul4, mul4]
theorem sc_inj {a b : Pt} (h : sc a = sc b) : a = b := by
  unfold sc at h
  simp at h
  apply Prod.ext <;> omega
theorem sc_inj_iff {a b : Pt} : sc a = sc b ↔ a = b := ⟨sc_inj, fun h => by rw [h]⟩
theorem comp_sc {a b c d : Pt} (h : Comp a b c d) : Comp (sc a) (sc b) (sc c) (sc d) := by
  obtain ⟨h0, h1, h2, h3, h4⟩ := h
  unfold Comp
  rw [crs_sc, on_sc, on_sc, on_sc, on_sc]
  simp only [sc_inj_iff]
  exact ⟨h0, h1, h2, h3, h4⟩
theorem pe_map (f : Pt → Pt) : ∀ l : List Pt, pe (l.map f) = (pe l).map fun e => (f e.1, f e.2)
  | [] => rfl
  | [_] => rfl
  | a :: b :: t => by
    rw [List.map_cons, List.map_cons, pe_cons, pe_cons, List.map_cons, ← pe_map f (b :: t)]
    rfl
theorem ed_map (f : Pt → Pt) (l : List Pt) : Ed (l.map f) = (Ed l).map fun e => (f e.1, f e.2) := by
  match l with
  | [] => rfl
  | a :: t =>
    rw [List.map_cons, ed_cons, ed_cons, ← pe_map]
    simp
def inH (p : Pt) : Prop := 0 ≤ p.1 ∧ p.1 < 50000
theorem simple_sc {l : List Pt} (h : Simple l) (hb : ∀ p ∈ l, inH p) : Simple (l.map sc) := by
  obtain ⟨h1, h2, h3, h4⟩ := h
  refine ⟨by simpa using h1, ?_, fun p hp => ?_, fun e he f hf => ?_⟩
  · rw [List.Nodup, List.pairwise_map]
    exact h2.imp (fun {a b} h k => h (sc_inj k))
  · obtain ⟨q, hq, rfl⟩ := List.mem_map.1 hp
    have := hb q hq
    unfold inH at this
    unfold inB sc
    simp only
    omega
  · rw [ed_map] at he hf
    obtain ⟨e', he', rfl⟩ := List.mem_map.1 he
    obtain ⟨f', hf', rfl⟩ := List.mem_map.1 hf
    exact comp_sc (h4 _ he' _ hf')
theorem sa_sc : ∀ E : List (Pt × Pt), sa (E.map fun e => (sc e.1, sc e.2)) = 4 * sa E
  | [] => rfl
  | e :: E => by
    rw [List.map_cons, sa, sa, sa_sc E]
    unfold sc
    simp only
    grind
theorem area_sc (l : List Pt) : area (l.map sc) = 4 * area l := by
  unfold area
  rw [ed_map, sa_sc]
theorem ll_sc {l : List Pt} (h : Simple l) (hb : ∀ p ∈ l, inH p) (hL : LL l = true) : LL (l.map sc) = true :=
  ll_of_area (simple_sc h hb) (by rw [area_sc]; have := area_pos _ l rfl h hL; omega)
theorem on_ht {a b p : Pt} (h : On a b p) : Btw (ht a) (ht b) (ht p) := by
  obtain ⟨h0, h1, h2⟩ := h
  have e1 : (b.1 - a.1) * (ht p - ht a) = (p.1 - a.1) * (ht b - ht a) := by unfold ht; unfold cr at h0; grind
  have e2 : (b.2 - a.2) * (ht p - ht a) = (p.2 - a.2) * (ht b - ht a) := by unfold ht; unfold cr at h0; grind
  have one : ∀ {A B P F G : Int}, Btw A B P → A ≠ B → (B - A) * F = (P - A) * G → (0 ≤ F ∧ F ≤ G) ∨ (G ≤ F ∧ F ≤ 0) := by
    intro A B P F G hb hne e
    rcases Int.lt_or_gt_of_ne hne with c | c
    · refine btw_of_mul (H := B - A) (P := P - A) (by omega) ?_ ?_ e
      · unfold Btw at hb; omega
      · unfold Btw at hb; omega
    · refine btw_of_mul (H := A - B) (P := A - P) (by omega) ?_ ?_ (by grind)
      · unfold Btw at hb; omega
      · unfold Btw at hb; omega
  by_cases c1 : a.1 = b.1
  · by_cases c2 : a.2 = b.2
    · have hab : a = b := Prod.ext c1 c2
      have hpa : p = a := by
        apply Prod.ext
        · unfold Btw at h1; omega
        · unfold Btw at h2; omega
      rw [hpa, ← hab]; unfold Btw; omega
    · have := one h2 c2 e2
      unfold Btw; omega
  · have := one h1 c1 e1
    unfold Btw; omega
/-- The first half of a segment. -/
theorem on_half {a b p : Pt} (h : On (sc a) (md a b) (sc p)) : On a b p := by
  obtain ⟨h0, h1, h2⟩ := h
  rw [cr_md1] at h0
  unfold sc md at h1 h2
  simp only at h1 h2
  refine ⟨by omega, ?_, ?_⟩
  · unfold Btw at *; omega
  · unfold Btw at *; omega
theorem touch_half {a b p q : Pt} (ia : inB a) (ib : inB b) (ip : inB p) (iq : inB q) (ab : a ≠ b) (pq : p ≠ q) (h : Touch (sc a) (md a b) (sc p) (sc q)) : Touch a b p q := by
  rcases h with h | h | h | h | h
  · left
    obtain ⟨h1, h2⟩ := h
    rw [cr_md1, cr_md1] at h1
    rw [cr_sc, cr_md3] at h2
    have e1 : 2 * cr a b p * (2 * cr a b q) = 4 * (cr a b p * cr a b q) := by grind
    refine ⟨by omega, mul_lt_zero ?_⟩
    rcases lt_zero_cases h2 with ⟨x, y⟩ | ⟨x, y⟩ <;> omega
  · exact .inr (.inl (on_half h))
  · exact .inr (.inr (.inl (on_half h)))
  · exact .inr (.inr (.inr (.inl (on_sc.1 h))))
  · have hab := ht_ne ia ib ab
    have hpq := ht_ne ip iq pq
    by_cases cz : cr a b p = 0 ∧ cr a b q = 0
    · -- all on one line
      obtain ⟨z1, z2⟩ := cz
      have z3 : cr p q a = 0 := by
        have q1 : (b.1 - a.1) * cr p q a = 0 := by unfold cr at z1 z2 ⊢; grind
        have q2 : (b.2 - a.2) * cr p q a = 0 := by unfold cr at z1 z2 ⊢; grind
        rcases Int.mul_eq_zero.1 q1 with k | k
        · rcases Int.mul_eq_zero.1 q2 with k2 | k2
          · exact absurd (Prod.ext (by omega) (by omega)) ab
          · exact k2
        · exact k
      have z4 : cr p q b = 0 := by
        have := h.1
        rw [cr_md3] at this
        omega
      have hb := on_ht h
      rw [ht_sc, ht_sc, ht_md] at hb
      have zz : ∀ {x y z : Pt}, cr x y z = 0 → cr y x z = 0 := by intro x y z k; rw [cr_swap, k]; rfl
      -- the ends in order
      have ord : ∀ {a b p q : Pt}, ht a < ht b → ht p < ht q → cr a b p = 0 → cr p q a = 0 → 2 * ht p ≤ ht a + ht b → ht a + ht b ≤ 2 * ht q → Touch a b p q := by
        intro a b p q h1 h2 z1 z3 k1 k2
        by_cases c : ht a ≤ ht p
        · exact .inr (.inl (on_of_ht z1 c (by omega) h1))
        · exact .inr (.inr (.inr (.inl (on_of_ht z3 (by omega) (by omega) h2))))
      unfold Btw at hb
      rcases Int.lt_or_gt_of_ne hab with c | c <;> rcases Int.lt_or_gt_of_ne hpq with d | d
      · exact ord c d z1 z3 (by omega) (by omega)
      · exact touch_swap2 (ord c d z2 (zz z3) (by omega) (by omega))
      · exact touch_swap1 (ord c d (zz z1) z4 (by omega) (by omega))
      · exact touch_swap1 (touch_swap2 (ord c d (zz z2) (zz z4) (by omega) (by omega)))
    · -- p and q on two sides, or one of them the middle
      have K := on_btw (sc a) (sc b) h
      have K' := on_btw (sc a) (sc b) (on_swap h)
      have em : cr (sc a) (sc b) (md a b) = 0 := by rw [cr_md3, cr_self2, cr_self3]; rfl
      rw [cr_sc, cr_sc, em] at K K'
      have s := K.1
      have mid_on : ∀ {x : Pt}, md a b = sc x → On a b x := by
        intro x hx
        refine on_half ?_
        rw [← hx]
        exact on_self2 _ _
      by_cases cp : cr a b p = 0
      · exact .inr (.inl (mid_on (K'.2 (by omega) (by omega))))
      · by_cases cq : cr a b q = 0
        · exact .inr (.inr (.inl (mid_on (K.2 (by omega) (by omega)))))
        · left
          have h1 : cr a b p * cr a b q < 0 := mul_lt_zero (by unfold Btw at s; omega)
          refine ⟨h1, ?_⟩
          have h0 := h.1
          rw [cr_md3] at h0
          by_cases c : cr p q a = 0
          · -- then the line of p and q goes through a and b
            exfalso
            have cb : cr p q b = 0 := by omega
            have q1 : cr a b p = 0 := by
              have e1 : (q.1 - p.1) * cr a b p = 0 := by unfold cr at c cb ⊢; grind
              have e2 : (q.2 - p.2) * cr a b p = 0 := by unfold cr at c cb ⊢; grind
              rcases Int.mul_eq_zero.1 e1 with k | k
              · rcases Int.mul_eq_zero.1 e2 with k2 | k2
                · exact absurd (Prod.ext (by omega) (by omega)) pq
                · exact k2
              · exact k
            exact cp q1
          · exact mul_lt_zero (by omega)
/-- The ray counts the same edges wherever the row begins. -/
theorem par_turn (s t : List Pt) (p : Pt) : par (Ed (t ++ s)) p = par (Ed (s ++ t)) p := by
  have par_rot : ∀ (a : Pt) (l : List Pt), par (Ed (l ++ [a])) p = par (Ed (a :: l)) p := by
    intro a l
    match l with
    | [] => rfl
    | w :: t =>
      rw [ed_eq, List.cons_append, Ed, pe_snoc, pe_snoc, lastOf_snoc]
      simp only [par, par_append]
      cases par (pe (w :: t)) p <;> cases cu (lastOf w t) a p <;> cases cu a w p <;> rfl
  exact rot_ind (Pr := fun l => par (Ed l) p = par (Ed (s ++ t)) p) (fun a l h => (par_rot a l).trans h) s t rfl
/-- A chord between two corners that no other corner lies on and no edge crosses. -/
def Clean (l : List Pt) (a b : Pt) : Prop := ∀ e ∈ Ed l, (e.1 ≠ a → e.1 ≠ b → ¬ On a b e.1) ∧ ¬ Crs a b e.1 e.2
theorem cone_pos {a b c a' b' c' : Int} (h1 : a' = 4 * a) (h2 : b' = 2 * b) (h3 : c' = 2 * c) : ConeI a' b' c' ↔ ConeI a b c := by
  unfold ConeI
  by_cases h : 0 ≤ a
  · rw [if_pos (by omega), if_pos h]; omega
  · rw [if_neg (by omega), if_neg h]; omega
/-- THE MIDDLE OF A CHORD: inside just where the chord begins in the corner. -/
theorem mid_inside {l : List Pt} {u a w b : Pt} (h : Simple l) (hb : ∀ p ∈ l, inH p) (hL : LL l = true) (e1 : (u, a) ∈ Ed l) (e2 : (a, w) ∈ Ed l) (hm : b ∈ l) (ab : a ≠ b) (ub : u ≠ b) (wb : w ≠ b) (hc : Clean l a b) :
    par (Ed (l.map sc)) (md a b) = decide (Cone u a w b) ∧ ∀ e ∈ Ed (l.map sc), ¬ On e.1 e.2 (md a b) := by
  have main : ∀ r : List Pt, Simple (a :: w :: r) → LL (a :: w :: r) = true → (∀ p ∈ a :: w :: r, inH p) → (u, a) ∈ Ed (a :: w :: r) → b ∈ a :: w :: r → Clean (a :: w :: r) a b →
      par (Ed ((a :: w :: r).map sc)) (md a b) = decide (Cone u a w b) ∧ ∀ e ∈ Ed ((a :: w :: r).map sc), ¬ On e.1 e.2 (md a b) := by
    intro r h hL hb e1 hm hc
    have hu : u = lastOf w r := ed_prev h.2.1 e1 (ed_ne h e1)
    subst hu
    obtain ⟨aw, au, wu, ia, iw, iu, n1⟩ := corner_of h
    have hs := simple_sc h hb
    have hl := ll_sc h hb hL
    have hnd := h.2.1
    rw [List.nodup_cons] at hnd
    have e2 : (a, w) ∈ Ed (a :: w :: r) := by rw [ed_eq]; simp
    have ib : inB b := h.2.2.1 b hm
    have Hb := hb b hm
    have Ha := hb a (by simp)
    -- each corner begins an edge
    have start : ∀ q ∈ a :: w :: r, ∃ e ∈ Ed (a :: w :: r), e.1 = q := by
      intro q hq
      obtain ⟨i, hi, rfl⟩ := List.mem_iff_getElem.1 hq
      exact ⟨_, (ed_index _ (by simp) _).2 ⟨i, hi, rfl⟩, pt_get _ i hi⟩
    have noOn : ∀ q ∈ a :: w :: r, q ≠ a → q ≠ b → ¬ On a b q := by
      intro q hq n1 n2
      obtain ⟨e, he, rfl⟩ := start q hq
      exact (hc e he).1 n1 n2
    -- no edge holds an end of the chord
    have noEnd : ∀ e ∈ Ed (a :: w :: r), ∀ q ∈ a :: w :: r, On e.1 e.2 q → q = e.1 ∨ q = e.2 := by
      intro e he q hq ho
      obtain ⟨f, hf, rfl⟩ := start q hq
      exact (h.2.2.2 e he f hf).2.1 ho
    have mapE : Ed ((a :: w :: r).map sc) = (Ed (a :: w :: r)).map fun e => (sc e.1, sc e.2) := ed_map sc _
    -- the edges away from a do not touch the half chord
    have free : ∀ e ∈ Ed (a :: w :: r), e.1 ≠ a → e.2 ≠ a → ¬ Touch (sc a) (md a b) (sc e.1) (sc e.2) := by
      intro e he n1 n2 k
      have m := ed_mem he
      have ne := ed_ne h he
      have hab := ht_ne ia ib ab
      by_cases c1 : e.1 = b
      · -- the edge begins at b
        have q2 : e.2 ≠ b := by rw [← c1]; exact Ne.symm ne
        rcases k with k | k | k | k | k
        · have := (crs_ends k)
          have k1 := k.1
          rw [c1, cr_md1, cr_self3] at k1
          omega
        · have := on_ht k
          rw [ht_sc, ht_md, c1, ht_sc] at this
          unfold Btw at this; omega
        · exact noOn e.2 m.2 n2 q2 (on_half k)
        · rcases noEnd e he a (by simp) (on_sc.1 k) with q | q
          · exact n1 q.symm
          · exact n2 q.symm
        · have k0 := k.1
          rw [cr_md3, c1, cr_self2] at k0
          have c0 : cr b e.2 a = 0 := by omega
          have hx := on_ht k
          rw [ht_sc, ht_sc, ht_md, c1] at hx
          have nn : NO b e.2 a := by
            refine ⟨fun k => ?_, fun k => noOn e.2 m.2 n2 q2 (on_swap k)⟩
            rcases noEnd e he a (by simp) (by rw [c1]; exact k) with q | q
            · exact n1 q.symm
            · exact n2 q.symm
          have ie := h.2.2.1 _ m.2
          have := no_sign ib ie ia (Ne.symm q2) (Ne.symm ab) nn c0
          have h2 := ht_ne ib ie (Ne.symm q2)
          unfold Btw at hx; omega
      · by_cases c2 : e.2 = b
        · rcases k with k | k | k | k | k
          · have k1 := k.1
            rw [c2, cr_md1, cr_md1, cr_self3] at k1
            omega
          · exact noOn e.1 m.1 n1 c1 (on_half k)
          · have := on_ht k
            rw [ht_sc, ht_md, c2, ht_sc] at this
            unfold Btw at this; omega
          · rcases noEnd e he a (by simp) (on_sc.1 k) with q | q
            · exact n1 q.symm
            · exact n2 q.symm
          · have k0 := k.1
            rw [cr_md3, c2, cr_self3] at k0
            have c0 : cr b e.1 a = 0 := by rw [cr_swap]; omega
            have hx := on_ht k
            rw [ht_sc, ht_sc, ht_md, c2] at hx
            have nn : NO b e.1 a := by
              refine ⟨fun k => ?_, fun k => noOn e.1 m.1 n1 c1 (on_swap k)⟩
              rcases noEnd e he a (by simp) (by rw [c2]; exact on_swap k) with q | q
              · exact n1 q.symm
              · exact n2 q.symm
            have ie := h.2.2.1 _ m.1
            have := no_sign ib ie ia (Ne.symm c1) (Ne.symm ab) nn c0
            have h2 := ht_ne ib ie (Ne.symm c1)
            unfold Btw at hx; omega
        · have k2 := touch_half ia ib (h.2.2.1 _ m.1) (h.2.2.1 _ m.2) ab ne k
          rcases k2 with k | k | k | k | k
          · exact (hc e he).2 k
          · exact noOn e.1 m.1 n1 c1 k
          · exact noOn e.2 m.2 n2 c2 k
          · rcases noEnd e he a (by simp) k with q | q
            · exact n1 q.symm
            · exact n2 q.symm
          · rcases noEnd e he b hm k with q | q
            · exact c1 q.symm
            · exact c2 q.symm
    -- the middle is not on the edges at a
    have offE : ∀ q, (∃ e ∈ Ed (a :: w :: r), (e = (a, q) ∨ e = (q, a))) → q ≠ b → q ≠ a → inB q → NO (sc a) (sc q) (md a b) := by
      intro q ⟨e, he, hq⟩ nb na iq
      have hqm : q ∈ a :: w :: r := by
        rcases hq with rfl | rfl
        · exact (ed_mem he).2
        · exact (ed_mem he).1
      have hab := ht_ne ia ib ab
      have haq := ht_ne ia iq (Ne.symm na)
      refine ⟨fun k => ?_, fun k => noOn q hqm na nb (on_half k)⟩
      have k0 := k.1
      rw [cr_md2] at k0
      have c0 : cr a q b = 0 := by omega
      have hx := on_ht k
      rw [ht_sc, ht_sc, ht_md] at hx
      have nn : NO a q b := by
        refine ⟨fun k => ?_, fun k => noOn q hqm na nb k⟩
        rcases hq with rfl | rfl
        · rcases noEnd _ he b hm k with x | x
          · exact ab x.symm
          · exact nb x.symm
        · rcases noEnd _ he b hm (on_swap k) with x | x
          · exact nb x.symm
          · exact ab x.symm
      have := no_sign ia iq ib (Ne.symm na) ab nn c0
      unfold Btw at hx; omega
    have nw := offE w ⟨(a, w), e2, .inl rfl⟩ wb (Ne.symm aw) iw
    have nu := offE (lastOf w r) ⟨(lastOf w r, a), e1, .inr rfl⟩ ub (Ne.symm au) iu
    have lm : lastOf (sc w) (r.map sc) = sc (lastOf w r) := by
      have : ∀ (r : List Pt) (w : Pt), lastOf (sc w) (r.map sc) = sc (lastOf w r) := by
        intro r
        induction r with
        | nil => intro w; rfl
        | cons b r ih => intro w; exact ih b
      exact this r w
    have im : inB (md a b) := by
      unfold inH at Ha Hb
      unfold inB md
      simp only
      omega
    have am : sc a ≠ md a b := by
      intro k
      unfold sc md at k
      simp at k
      exact ab (Prod.ext (by omega) (by omega))
    have away : ∀ e ∈ pe (w :: r), e ∈ Ed (a :: w :: r) ∧ e.1 ≠ a ∧ e.2 ≠ a := by
      intro e he
      have := pe_mem _ e he
      refine ⟨by rw [ed_eq]; simp [he], ?_, ?_⟩
      · rintro rfl; exact hnd.1 this.1
      · rintro rfl; exact hnd.1 this.2
    have hs' : Simple (sc a :: sc w :: r.map sc) := hs
    have hl' : LL (sc a :: sc w :: r.map sc) = true := hl
    refine ⟨?_, fun e he ho => ?_⟩
    · have C := cone hs' im am (fun e he => by
        rw [← List.map_cons (f := sc), pe_map] at he
        obtain ⟨e', he', rfl⟩ := List.mem_map.1 he
        obtain ⟨q1, q2, q3⟩ := away e' he'
        exact free e' q1 q2 q3) nw (by rw [lm]; exact nu)
      have C' : par (Ed ((a :: w :: r).map sc)) (md a b) = (LL (sc a :: sc w :: r.map sc) != !decide (Cone (lastOf (sc w) (r.map sc)) (sc a) (sc w) (md a b))) := C
      rw [C', hl', lm]
      have : decide (Cone (sc (lastOf w r)) (sc a) (sc w) (md a b)) = decide (Cone (lastOf w r) a w b) := by
        apply decide_eq_decide.2
        rw [cone_iff, cone_iff]
        exact cone_pos (cr_sc _ _ _) (cr_md2 _ _ _) (cr_md2 _ _ _)
      rw [this]
      cases decide (Cone (lastOf w r) a w b) <;> rfl
    · rw [mapE] at he
      obtain ⟨e', he', rfl⟩ := List.mem_map.1 he
      simp only at ho
      by_cases c1 : e'.1 = a
      · exact (offE e'.2 ⟨e', he', .inl (by rw [← c1])⟩ (by
          rintro q
          rw [ed_eq] at he'
          rcases List.mem_cons.1 he' with k | k
          · rw [k] at q; exact wb q
          · rcases List.mem_append.1 k with k | k
            · exact hnd.1 (by rw [← c1]; exact (pe_mem _ _ k).1)
            · simp at k; rw [k] at c1; exact au c1.symm) (by rw [← c1]; exact (ed_ne h he').symm) (h.2.2.1 _ (ed_mem he').2)).1 (by rw [c1] at ho; exact ho)
      · by_cases c2 : e'.2 = a
        · exact (offE e'.1 ⟨e', he', .inr (by rw [← c2])⟩ (by
            rintro q
            rw [ed_eq] at he'
            rcases List.mem_cons.1 he' with k | k
            · rw [k] at c2; exact aw c2.symm
            · rcases List.mem_append.1 k with k | k
              · exact hnd.1 (by rw [← c2]; exact (pe_mem _ _ k).2)
              · simp at k; rw [k] at q; exact ub q) c1 (h.2.2.1 _ (ed_mem he').1)).1 (by rw [c2] at ho; exact on_swap ho)
        · exact free e' he' c1 c2 (.inr (.inr (.inr (.inr ho))))
  obtain ⟨s, t, r, rfl, e⟩ := ed_at e2 (by have := h.1; omega)
  have h' := simple_turn h
  have hL' := (ll_turn h).trans hL
  have e1' := (ed_turn s t _).2 e1
  have hm' : b ∈ t ++ s := by simp at hm ⊢; exact hm.symm
  have hb' : ∀ p ∈ t ++ s, inH p := fun p hp => hb p (by simp at hp ⊢; exact hp.symm)
  have hc' : Clean (t ++ s) a b := fun f hf => hc f ((ed_turn s t f).1 hf)
  rw [e] at h' hL' e1' hm' hb' hc'
  have K := main r h' hL' hb' e1' hm' hc'
  rw [← e, List.map_append] at K
  rw [List.map_append]
  refine ⟨by rw [← par_turn]; exact K.1, fun f hf => K.2 f ((ed_turn _ _ f).2 hf)⟩
/-- The half-open test by heights is the test by the slanted height, off the edge. -/
def fl (u v q : Pt) : Bool := (decide (q.2 < u.2) != decide (q.2 < v.2)) && (if u.2 < v.2 then decide (0 < cr u v q) else decide (cr u v q < 0))
theorem fl_cu {u v q : Pt} (iu : inB u) (iv : inB v) (iq : inB q) (hn : ¬ On u v q) : fl u v q = cu u v q := by
  have uq : u ≠ q := by rintro rfl; exact hn (on_self1 _ _)
  have vq : v ≠ q := by rintro rfl; exact hn (on_self2 _ _)
  have key : ∀ {a : Pt}, inB a → a ≠ q → a.2 ≠ q.2 → (ht q < ht a ↔ q.2 < a.2) := by
    intro a ia _ h
    unfold ht inB at *
    omega
  have same : ∀ {a : Pt}, a.2 = q.2 → (ht q < ht a ↔ a.1 < q.1) := by
    intro a h
    unfold ht
    omega
  have ord : (u.2 < v.2 → ht u < ht v) ∧ (v.2 < u.2 → ht v < ht u) := by
    unfold ht inB at *
    omega
  have c1 : u.2 = q.2 → cr u v q = - ((v.2 - u.2) * (q.1 - u.1)) := by intro e; unfold cr; rw [e]; grind
  have c2 : v.2 = q.2 → cr u v q = (v.2 - u.2) * (v.1 - q.1) := by intro e; unfold cr; rw [← e]; grind
  have ne1 : u.2 = q.2 → u.1 ≠ q.1 := fun e k => uq (Prod.ext k e)
  have ne2 : v.2 = q.2 → v.1 ≠ q.1 := fun e k => vq (Prod.ext k e)
  by_cases a : u.2 = q.2
  · by_cases b : v.2 = q.2
    · -- level
      have z : cr u v q = 0 := by rw [c1 a, b, a]; simp
      unfold fl cu
      rw [z]
      simp
    · have kv := key iv vq b
      have ku := same a
      have cc := c1 a
      unfold fl cu
      rw [dec_eq kv, dec_eq ku, decide_eq_false (show ¬ q.2 < u.2 by omega)]
      by_cases d : q.2 < v.2
      · rw [decide_eq_true d, if_pos (show u.2 < v.2 by omega), if_pos (ord.1 (by omega))]
        by_cases f : u.1 < q.1
        · rw [decide_eq_true f]
          have := Int.mul_pos (show 0 < v.2 - u.2 by omega) (show 0 < q.1 - u.1 by omega)
          rw [decide_eq_false (show ¬ 0 < cr u v q by omega)]; rfl
        · rw [decide_eq_false f]
      · rw [decide_eq_false d, if_neg (show ¬ u.2 < v.2 by omega), if_neg (show ¬ ht u < ht v by have := ord.2 (by omega); omega)]
        by_cases f : u.1 < q.1
        · rw [decide_eq_true f]
          have := mul_lt_zero (a := v.2 - u.2) (b := q.1 - u.1) (.inl ⟨by omega, by omega⟩)
          rw [decide_eq_false (show ¬ cr u v q < 0 by omega)]; rfl
        · rw [decide_eq_false f]
  · by_cases b : v.2 = q.2
    · have ku := key iu uq a
      have kv := same b
      have cc := c2 b
      unfold fl cu
      rw [dec_eq kv, dec_eq ku, decide_eq_false (show ¬ q.2 < v.2 by omega)]
      by_cases d : q.2 < u.2
      · rw [decide_eq_true d, if_neg (show ¬ u.2 < v.2 by omega), if_neg (show ¬ ht u < ht v by have := ord.2 (by omega); omega)]
        by_cases f : v.1 < q.1
        · rw [decide_eq_true f]
          have := mul_nn (show v.2 - u.2 ≤ 0 by omega) (show v.1 - q.1 ≤ 0 by omega)
          rw [decide_eq_false (show ¬ cr u v q < 0 by omega)]; rfl
        · rw [decide_eq_false f]
      · rw [decide_eq_false d, if_pos (show u.2 < v.2 by omega), if_pos (ord.1 (by omega))]
        by_cases f : v.1 < q.1
        · rw [decide_eq_true f]
          have := mul_pn (show 0 ≤ v.2 - u.2 by omega) (show v.1 - q.1 ≤ 0 by omega)
          rw [decide_eq_false (show ¬ 0 < cr u v q by omega)]; rfl
        · rw [decide_eq_false f]
    · have ku := key iu uq a
      have kv := key iv vq b
      unfold fl cu
      rw [dec_eq kv, dec_eq ku]
      by_cases d : q.2 < u.2 <;> by_cases f : q.2 < v.2
      · rw [decide_eq_true d, decide_eq_true f]; rfl
      · rw [if_neg (show ¬ u.2 < v.2 by omega), if_neg (show ¬ ht u < ht v by have := ord.2 (by omega); omega)]
      · rw [if_pos (show u.2 < v.2 by omega), if_pos (ord.1 (by omega))]
      · rw [decide_eq_false d, decide_eq_false f]; rfl
end Go.Proofs.Ytnnchaggdnlfmaa.Geo
namespace Go.Proofs.Ytnnchaggdnlfmaa.MaGeoE
theorem here : True := trivial
end Go.Proofs.Ytnnchaggdnlfmaa.MaGeoE
