/- Plain facts that the proofs of this seat use. -/
import Derived.Test.YtlnbppilafoeoaaMaGeoB
/-! Every simple polygon has ears; cutting one leaves a simple polygon. -/
namespace Go.Proofs.Ytlnbppilafoeoaa.Geo
set_option linter.unusedVariables false
set_option linter.unusedSimpArgs false
theorem exists_max (f : Pt → Int) : ∀ (l : List Pt), l ≠ [] → ∃ z ∈ l, ∀ p ∈ l, f p ≤ f z
  | [], h => absurd rfl h
  | [a], _ => ⟨a, by simp, fun p hp => by simp at hp; rw [hp]; exact Int.le_refl _⟩
  | a :: b :: l, _ => by
    obtain ⟨z, hz, hm⟩ := exists_max f (b :: l) (by simp)
    rcases Int.le_total (f a) (f z) with h | h
    · refine ⟨z, List.mem_cons_of_mem _ hz, fun p hp => ?_⟩
      rcases List.mem_cons.1 hp with rfl | hp
      · exact h
      · exact hm p hp
    · refine ⟨a, by simp, fun p hp => ?_⟩
      rcases List.mem_cons.1 hp with rfl | hp
      · exact Int.le_refl _
      · exact Int.le_trans (hm p hp) h
/-- Turned so that the highest corner comes first. -/
theorem to_top {l : List Pt} (h : Simple l) : ∃ s t v w r, l = s ++ t ∧ t ++ s = v :: w :: r ∧ r ≠ [] ∧ ∀ p ∈ w :: r, ht p ≤ ht v := by
 have hl := h.1;obtain ⟨v, hv, hm⟩ := exists_max ht l (by rintro rfl; simp at hl);obtain ⟨s, t, rfl⟩ := List.append_of_mem hv;have e : v :: t ++ s = v :: (t ++ s) := rfl;(match hc : t ++ s with |[] => (exfalso;(have : (s ++ v :: t).length = (t ++ s).length + 1 := by simp; omega);rw [hc] at this; simp at this; simp at hl; omega) |[w] => (exfalso;(have : (s ++ v :: t).length = (t ++ s).length + 1 := by simp; omega);rw [hc] at this; simp at this; simp at hl; omega) |w :: b :: r => (refine ⟨s, v :: t, v, w, b :: r, rfl, by rw [e, hc], by simp, fun p hp => hm p ?_⟩;(have : p ∈ t ++ s := by rw [hc]; exact hp);simp at this ⊢;grind))
theorem area_turn (s t : List Pt) : area (t ++ s) = area (s ++ t) :=
  rot_ind (Pr := fun l => area l = area (s ++ t)) (fun a l h => (area_rot a l).trans h) s t rfl
/-- The highest point in the corner's triangle, or that there is none. -/
theorem pick (u v w : Pt) (t : List Pt) : (∀ p ∈ t, p ≠ u → ¬ InT u v w p) ∨ ∃ z ∈ t, z ≠ u ∧ InT u v w z ∧ ∀ p ∈ t, p ≠ u → InT u v w p → cr w u p ≤ cr w u z := by
  classical
  by_cases h : ∃ p ∈ t, p ≠ u ∧ InT u v w p
  · right
    obtain ⟨z, hz, hm⟩ := exists_max (cr w u) (t.filter fun p => decide (p ≠ u ∧ InT u v w p)) (by
      obtain ⟨p, hp, h1, h2⟩ := h
      intro e
      have : p ∈ t.filter fun p => decide (p ≠ u ∧ InT u v w p) := List.mem_filter.2 ⟨hp, decide_eq_true ⟨h1, h2⟩⟩
      rw [e] at this
      cases this)
    obtain ⟨h1, h2⟩ := List.mem_filter.1 hz
    have h2 := of_decide_eq_true h2
    exact ⟨z, h1, h2.1, h2.2, fun p hp a b => hm p (List.mem_filter.2 ⟨hp, decide_eq_true ⟨a, b⟩⟩)⟩
  · left
    intro p hp a b
    exact h ⟨p, hp, a, b⟩
/-- Where the highest point z of the corner's triangle is: the chord goes with all edges. -/
theorem chord_all {v w z : Pt} {t : List Pt} (h : Simple (v :: w :: t)) (hT : 0 < cr (lastOf w t) v w) (hz : z ∈ t) (hzu : z ≠ lastOf w t) (hi : InT (lastOf w t) v w z)
    (hm : ∀ p ∈ t, p ≠ lastOf w t → InT (lastOf w t) v w p → cr w (lastOf w t) p ≤ cr w (lastOf w t) z) :
    0 < cr (lastOf w t) v z ∧ 0 < cr v w z ∧ (∀ e ∈ Ed (v :: w :: t), Comp v z e.1 e.2) ∧ (∀ p ∈ w :: t, On v z p → p = v ∨ p = z) := by
  obtain ⟨vw, vu, wu, iv, iw, iu, n1⟩ := corner_of h
  obtain ⟨h1, h2, h3, h4⟩ := h
  have hd := h2
  rw [List.nodup_cons, List.nodup_cons] at hd
  have zv : z ≠ v := by rintro rfl; exact hd.1 (List.mem_cons_of_mem _ hz)
  have zw : z ≠ w := by rintro rfl; exact hd.2.1 hz
  have euv : (lastOf w t, v) ∈ Ed (v :: w :: t) := by rw [ed_eq]; simp
  have evw : (v, w) ∈ Ed (v :: w :: t) := by rw [ed_eq]; simp
  -- z begins or ends an edge
  have ez : ∃ e ∈ Ed (v :: w :: t), e.1 = z := by
    obtain ⟨s, r, e⟩ := List.append_of_mem hz
    subst e
    rw [ed_cons]
    have : v :: (w :: (s ++ z :: r) ++ [v]) = (v :: w :: s) ++ z :: (r ++ [v]) := by simp
    rw [this, pe_split]
    cases r with
    | nil => exact ⟨(z, v), by simp [pe], rfl⟩
    | cons a r => exact ⟨(z, a), by simp [pe], rfl⟩
  obtain ⟨ez, hez, hz1⟩ := ez
  have z1 : 0 < cr (lastOf w t) v z := by
    rcases Int.lt_or_eq_of_le hi.1 with e | e
    · exact e
    · exfalso
      have := side_on hT hi e.symm
      rw [← hz1] at this
      rcases (h4 _ euv _ hez).2.1 this with k | k
      · rw [hz1] at k; exact hzu k
      · rw [hz1] at k; exact zv k
  have z2 : 0 < cr v w z := by
    rcases Int.lt_or_eq_of_le hi.2.1 with e | e
    · exact e
    · exfalso
      have := side_on (u := v) (v := w) (w := lastOf w t) (by rw [cr_rot]; exact hT) (int_rot.2 hi) e.symm
      rw [← hz1] at this
      rcases (h4 _ evw _ hez).2.1 this with k | k
      · rw [hz1] at k; exact zv k
      · rw [hz1] at k; exact zw k
  have lev : ∀ p ∈ v :: w :: t, p ≠ v → InT (lastOf w t) v w p → cr w (lastOf w t) p ≤ cr w (lastOf w t) z := by
    intro p hp a b
    have z3 := hi.2.2
    by_cases c1 : p = w
    · rw [c1, cr_self2]; exact z3
    · by_cases c2 : p = lastOf w t
      · rw [c2, cr_self3]; exact z3
      · refine hm p ?_ c2 b
        rcases List.mem_cons.1 hp with e | e
        · exact absurd e a
        · rcases List.mem_cons.1 e with e | e
          · exact absurd e c1
          · exact e
  have onv : ∀ p ∈ v :: w :: t, On v z p → p = v ∨ p = z := fun p hp ho => chord_on hT hi z1 z2 (lev p hp) ho
  refine ⟨z1, z2, fun e he => ?_, fun p hp => onv p (List.mem_cons_of_mem _ hp)⟩
  have m1 : e.1 ∈ v :: w :: t ∧ e.2 ∈ v :: w :: t := by
    rw [ed_cons] at he
    have := pe_mem _ e he
    simp at this ⊢
    grind
  refine ⟨chord_crs hT z1 z2 hi.2.2 (h4 _ he _ euv) (h4 _ he _ evw) (lev _ m1.1) (lev _ m1.2), onv _ m1.1, onv _ m1.2, fun ho => ?_, fun ho => ?_⟩
  · have := (h4 _ he _ evw).2.1 ho
    exact this
  · have := (h4 _ he _ hez).2.1 (by rw [hz1]; exact ho)
    rw [hz1] at this
    exact this
/-- z in the rest of the corners parts them. -/
theorem part_at {w z : Pt} {t : List Pt} (hz : z ∈ t) (hzu : z ≠ lastOf w t) : ∃ c1 c2, t = c1 ++ z :: c2 ∧ c2 ≠ [] ∧ lastOf w t = lastOf z c2 := by
 obtain ⟨s, r, rfl⟩ := List.append_of_mem hz;(have e : ∀ (s : List Pt) (w : Pt), lastOf w (s ++ z :: r) = lastOf z r := by intro s;(induction s with |nil => (intro w; rfl) |cons a s ih => (intro w; exact ih a)));refine ⟨s, r, rfl, ?_, e s w⟩;rintro rfl;rw [e s w] at hzu;exact hzu rfl
theorem last_app (w z : Pt) (r : List Pt) : ∀ (s : List Pt) (w : Pt), lastOf w (s ++ z :: r) = lastOf z r
  | [], _ => rfl
  | a :: s, _ => last_app a z r s a
/-- Simple polygons to the left around have a positive area. -/
theorem area_pos : ∀ (n : Nat) (l : List Pt), l.length = n → Simple l → LL l = true → 0 < area l := by
  intro n
  induction n using Nat.strongRecOn with
  | _ n ih =>
    intro l hn h hL
    obtain ⟨s, t, v, w, r, rfl, e, hr, hm⟩ := to_top h
    have h' := simple_turn h
    have hL' := (ll_turn h).trans hL
    rw [← area_turn]
    rw [e] at h' hL' ⊢
    have hlen : (v :: w :: r).length = n := by rw [← e, ← hn]; simp; omega
    clear e h hL hn
    have hT : 0 < cr (lastOf w r) v w := of_decide_eq_true ((ll_top h' hm).symm.trans hL')
    obtain ⟨vw, vu, wu, iv, iw, iu, n1⟩ := corner_of h'
    rcases pick (lastOf w r) v w r with hp | ⟨z, hz, hzu, hi, hmax⟩
    · rw [area_cut]
      by_cases h2 : 2 ≤ r.length
      · have hs := simple_cut h' h2 hT hp
        obtain ⟨d, r', rfl⟩ : ∃ d r', r = d :: r' := by cases r with | nil => exact absurd rfl hr | cons d r' => exact ⟨d, r', rfl⟩
        have hr' : r' ≠ [] := by rintro rfl; simp at h2
        obtain ⟨x, u, rfl⟩ : ∃ x u, r' = x ++ [u] := ⟨r'.dropLast, r'.getLast hr', (List.dropLast_concat_getLast hr').symm⟩
        have lu : lastOf w (d :: (x ++ [u])) = u := lastOf_snoc u x d
        rw [lu] at hT hp ⊢
        have dn : d ≠ u := by
          have := h'.2.1
          rw [List.nodup_cons, List.nodup_cons, List.nodup_cons] at this
          rintro rfl; exact this.2.2.1 (by simp)
        have := ll_cut h' hs hT (hp d (by simp) dn)
        have := ih (n - 1) (by simp at hlen; omega) _ (by simp at hlen ⊢; omega) hs (this.trans hL')
        omega
      · -- a triangle
        obtain ⟨d, rfl⟩ : ∃ d, r = [d] := by
          match r with
          | [] => exact absurd rfl hr
          | [d] => exact ⟨d, rfl⟩
          | _ :: _ :: _ => simp at h2
        have : area [w, d] = 0 := by unfold area; simp [Ed, pe, sa]; grind
        rw [this]
        omega
    · obtain ⟨z1, z2, hc, _⟩ := chord_all h' hT hz hzu hi hmax
      obtain ⟨c1, c2, rfl, hc2, hu⟩ := part_at hz hzu
      have hs := simple_split (v := v) (z := z) (c1 := w :: c1) (c2 := c2) h' (by simp) hc2 hc
      have len : (v :: w :: (c1 ++ z :: c2)).length = c1.length + c2.length + 3 := by simp; omega
      have l2 : 0 < c2.length := List.length_pos_iff.2 hc2
      have a1 : LL (v :: (w :: c1 ++ [z])) = true := by
        have q : v :: (w :: c1 ++ [z]) = v :: w :: (c1 ++ [z]) := rfl
        rw [q, ll_top (by rw [← q]; exact hs.1) (fun p hp => hm p (by simp at hp ⊢; grind)), lastOf_snoc]
        exact decide_eq_true (by rw [cr_rot2] at *; first | exact z2 | (rw [← cr_rot]; exact z2))
      have a2 : LL (v :: z :: c2) = true := by
        rw [ll_top hs.2 (fun p hp => hm p (by simp at hp ⊢; grind)), ← hu]
        exact decide_eq_true z1
      have q : v :: w :: (c1 ++ z :: c2) = v :: ((w :: c1) ++ z :: c2) := rfl
      rw [q, area_split]
      have b1 := ih _ (by simp; omega) _ rfl hs.1 a1
      have b2 := ih _ (by simp; omega) _ rfl hs.2 a2
      omega
/-- The corner b between a and c is an ear. -/
def EarAt (l : List Pt) (a b c : Pt) : Prop := (a, b) ∈ Ed l ∧ (b, c) ∈ Ed l ∧ 0 < cr a b c ∧ ∀ p ∈ l, p ≠ a → p ≠ b → p ≠ c → ¬ InT a b c p
theorem ed_turn (s t : List Pt) (e : Pt × Pt) : e ∈ Ed (t ++ s) ↔ e ∈ Ed (s ++ t) :=
  rot_ind (Pr := fun l => e ∈ Ed l ↔ e ∈ Ed (s ++ t)) (fun a l h => (ed_rot a l e).trans h) s t Iff.rfl
theorem ear_turn {s t : List Pt} {a b c : Pt} (h : EarAt (t ++ s) a b c) : EarAt (s ++ t) a b c :=
  ⟨(ed_turn s t _).1 h.1, (ed_turn s t _).1 h.2.1, h.2.2.1, fun p hp => h.2.2.2 p (by simp at hp ⊢; exact hp.symm)⟩
/-- An edge begins somewhere: turned so that it comes first. -/
theorem ed_at {l : List Pt} {b c : Pt} (h : (b, c) ∈ Ed l) (hl : 2 ≤ l.length) : ∃ s t r, l = s ++ t ∧ t ++ s = b :: c :: r := by
  have walk : ∀ (m : List Pt), (b, c) ∈ pe m → ∃ s r, m = s ++ b :: c :: r := by
    intro m
    induction m with
    | nil => intro h; cases h
    | cons x m ih =>
      intro h
      cases m with
      | nil => cases h
      | cons y m =>
        rw [pe_cons] at h
        rcases List.mem_cons.1 h with e | e
        · obtain ⟨rfl, rfl⟩ := Prod.mk.inj e
          exact ⟨[], m, rfl⟩
        · obtain ⟨s, r, e⟩ := ih e
          exact ⟨x :: s, r, by rw [e]; rfl⟩
  match l with
  | [] => simp at hl
  | a :: t =>
    rw [ed_cons] at h
    obtain ⟨s, r, e⟩ := walk _ h
    -- the row with its first one behind it
    cases hr : r.reverse with
    | nil =>
      have : r = [] := by simpa using hr
      subst this
      -- c is the first one
      have e' : a :: (t ++ [a]) = (s ++ [b]) ++ [c] := by rw [e]; simp
      have h1 : (a :: t) ++ [a] = (s ++ [b]) ++ [c] := e'
      obtain ⟨h2, h3⟩ := List.append_inj' h1 rfl
      have h3 : a = c := by simpa using h3
      subst h3
      cases s with
      | nil => simp at h2; obtain ⟨_, rfl⟩ := h2; simp at hl
      | cons x s =>
        have h2 : a :: t = x :: (s ++ [b]) := h2
        obtain ⟨rfl, rfl⟩ := List.cons.inj h2
        exact ⟨a :: s, [b], s, rfl, rfl⟩
    | cons x q =>
      have hr' : r = q.reverse ++ [x] := by rw [← List.reverse_reverse r, hr]; simp
      subst hr'
      have h1 : (a :: t) ++ [a] = (s ++ b :: c :: q.reverse) ++ [x] := by
        rw [List.cons_append, e]; simp
      obtain ⟨h2, _⟩ := List.append_inj' h1 rfl
      exact ⟨s, b :: c :: q.reverse, q.reverse ++ s, h2, by simp⟩
/-- What comes ahead of the first one. -/
theorem ed_prev {a b c : Pt} {r : List Pt} (hd : (b :: c :: r).Nodup) (h : (a, b) ∈ Ed (b :: c :: r)) (hb : a ≠ b) : a = lastOf c r := by
 rw [ed_eq] at h;rw [List.nodup_cons] at hd;rcases List.mem_cons.1 h with e | e;(·exact absurd (Prod.mk.inj e).1 hb);(·rcases List.mem_append.1 e with e | e;(·exact absurd (pe_mem _ _ e).2 hd.1);(·simp at e; exact e))
theorem ed_mem {l : List Pt} {e : Pt × Pt} (h : e ∈ Ed l) : e.1 ∈ l ∧ e.2 ∈ l := by
 (match l with |[] => (cases h) |a :: t => (rw [ed_cons] at h;have := pe_mem _ e h;simp at this ⊢;grind))
theorem ed_ne {l : List Pt} (h : Simple l) {e : Pt × Pt} (he : e ∈ Ed l) : e.1 ≠ e.2 := by
 obtain ⟨s, t, r, rfl, e'⟩ := ed_at (b := e.1) (c := e.2) he (by have := h.1; omega);have := (simple_turn h).2.1;rw [e'] at this;rw [List.nodup_cons] at this;intro k;exact this.1 (by rw [k]; simp)
/-- A point of an ear's triangle that is on no edge: it is inside. -/
theorem inside_ear {l : List Pt} {a b c p : Pt} (h : Simple l) (hL : LL l = true) (he : EarAt l a b c) (ip : inB p) (hp : ∀ e ∈ Ed l, ¬ On e.1 e.2 p) (hi : InT a b c p) : par (Ed l) p = true := by
  -- the corner first
  have main : ∀ (r : List Pt), Simple (b :: c :: r) → LL (b :: c :: r) = true → EarAt (b :: c :: r) a b c → (∀ e ∈ Ed (b :: c :: r), ¬ On e.1 e.2 p) → par (Ed (b :: c :: r)) p = true := by
    intro r h hL he hp
    obtain ⟨h1, h2, h3, h4⟩ := he
    have ab : a ≠ b := ed_ne h h1
    have ha := ed_prev h.2.1 h1 ab
    subst ha
    obtain ⟨bc, ba, ca, ib, ic, ia, n1⟩ := corner_of h
    have hd := h.2.1
    rw [List.nodup_cons] at hd
    have p1 : 0 < cr (lastOf c r) b p := by
      rcases Int.lt_or_eq_of_le hi.1 with e | e
      · exact e
      · exact absurd (side_on h3 hi e.symm) (hp _ h1)
    have p2 : 0 < cr b c p := by
      rcases Int.lt_or_eq_of_le hi.2.1 with e | e
      · exact e
      · exact absurd (side_on (u := b) (v := c) (w := lastOf c r) (by rw [cr_rot]; exact h3) (int_rot.2 hi) e.symm) (hp _ h2)
    have bp : b ≠ p := by rintro rfl; rw [cr_self2] at p2; omega
    have na : ¬ On b p (lastOf c r) := by
      intro k
      have := on_btw (lastOf c r) b (on_swap k)
      exact ba (this.2 (by rw [cr_self2, cr_self3]) (by rw [cr_self3]; omega)).symm
    have nc : ¬ On b p c := by
      intro k
      have := on_btw b c (on_swap k)
      exact bc (this.2 (by rw [cr_self2, cr_self3]) (by rw [cr_self2]; omega)).symm
    have vert : ∀ q ∈ c :: r, ¬ On b p q := by
      intro q hq k
      have qb : q ≠ b := by rintro rfl; exact hd.1 hq
      have qc : q ≠ c := by rintro rfl; exact nc k
      have qa : q ≠ lastOf c r := by rintro rfl; exact na k
      refine h4 q (List.mem_cons_of_mem _ hq) qa qb qc ⟨?_, ?_, ?_⟩
      · have := (on_btw (lastOf c r) b k).1
        rw [cr_self3] at this
        unfold Btw at this; omega
      · have := (on_btw b c k).1
        rw [cr_self2] at this
        unfold Btw at this; omega
      · have := (on_btw c (lastOf c r) k).1
        have e : cr c (lastOf c r) b = cr (lastOf c r) b c := by rw [← cr_rot c]
        have h5 := hi.2.2
        unfold Btw at this; omega
    have off : ∀ q ∈ c :: r, Off (lastOf c r) b c q := by
      intro q hq
      have qb : q ≠ b := by rintro rfl; exact hd.1 hq
      by_cases qa : q = lastOf c r
      · left; rw [qa, cr_self3]; omega
      · by_cases qc : q = c
        · left; rw [qc, cr_self2]; omega
        · have := h4 q (List.mem_cons_of_mem _ hq) qa qb qc
          unfold InT at this
          unfold Off
          omega
    have free : ∀ e ∈ pe (c :: r), ¬ Touch b p e.1 e.2 := by
      intro e he k
      have hm := pe_mem _ e he
      have hE : e ∈ Ed (b :: c :: r) := by rw [ed_eq]; simp [he]
      have b1 : b ≠ e.1 := by rintro k; exact hd.1 (by rw [k]; exact hm.1)
      have b2 : b ≠ e.2 := by rintro k; exact hd.1 (by rw [k]; exact hm.2)
      have c1 := h.2.2.2 _ hE _ h1
      have c2 := h.2.2.2 _ hE _ h2
      rcases k with k | k | k | k | k
      · rcases tb h3 p2 hi.2.2 p1 k (off _ hm.1) (off _ hm.2) with k | k
        · exact c1.1 k
        · exact c2.1 k
      · exact vert _ hm.1 k
      · exact vert _ hm.2 k
      · rcases c2.2.1 k with k | k
        · exact b1 k
        · exact b2 k
      · exact hp e hE k
    rw [cone h ip bp free ⟨hp _ h2, nc⟩ ⟨fun k => hp _ h1 (on_swap k), na⟩, hL]
    have : Cone (lastOf c r) b c p := by
      unfold Cone
      rw [if_pos (by omega)]
      exact ⟨p2, by rw [cr_rot]; exact p1⟩
    rw [decide_eq_true this]
    rfl
  obtain ⟨s, t, r, rfl, e⟩ := ed_at he.2.1 (by have := h.1; omega)
  have h' := simple_turn h
  have hL' := (ll_turn h).trans hL
  have he' : EarAt (t ++ s) a b c := ear_turn (s := t) (t := s) he
  have hp' : ∀ e ∈ Ed (t ++ s), ¬ On e.1 e.2 p := fun e he => hp e ((ed_turn s t e).1 he)
  rw [e] at h' hL' he' hp'
  have k := main r h' hL' he' hp'
  rw [← e] at k
  rw [← k]
  -- the ray counts the same edges
  have par_rot : ∀ (a : Pt) (l : List Pt), par (Ed (l ++ [a])) p = par (Ed (a :: l)) p := by
    intro a l
    match l with
    | [] => rfl
    | w :: t =>
      rw [ed_eq, List.cons_append, Ed, pe_snoc, pe_snoc, lastOf_snoc]
      simp only [par, par_append]
      cases par (pe (w :: t)) p <;> cases cu (lastOf w t) a p <;> cases cu a w p <;> rfl
  exact (rot_ind (Pr := fun l => par (Ed l) p = par (Ed (s ++ t)) p) (fun a l h => (par_rot a l).trans h) s t rfl).symm
/-- Two points whose segment touches no edge: both inside or both outside. -/
theorem par_same {l : List Pt} {p q : Pt} (h : Simple l) (ip : inB p) (iq : inB q) (pq : p ≠ q) (hf : ∀ e ∈ Ed l, ¬ Touch p q e.1 e.2) : par (Ed l) p = par (Ed l) q := by
 (match l with |[] => (have := h.1; simp at this) |a :: t => (have := walk ip iq pq (t ++ [a]) a (fun x hx => h.2.2.1 x (by simp at hx ⊢; grind)) (fun e he => ⟨ed_ne h he, hf e he⟩);rw [lastOf_snoc] at this;have e : pe (a :: (t ++ [a])) = Ed (a :: t) := rfl;rw [e] at this;revert this;cases par (Ed (a :: t)) p <;> cases par (Ed (a :: t)) q <;> cases cl p q a <;> decide))
theorem chain_all (f : Pt → Bool) : ∀ (t : List Pt) (w : Pt), (∀ e ∈ pe (w :: t), f e.1 = f e.2) → ∀ p ∈ w :: t, f p = f (lastOf w t) ∧ f p = f w
  | [], w, _, p, hp => by simp at hp; subst hp; exact ⟨rfl, rfl⟩
  | b :: t, w, h, p, hp => by
    have h1 := h (w, b) (by rw [pe_cons]; simp)
    have ih := chain_all f t b (fun e he => h e (by rw [pe_cons]; exact List.mem_cons_of_mem _ he))
    rcases List.mem_cons.1 hp with rfl | hp
    · exact ⟨h1.trans (ih b (by simp)).1, rfl⟩
    · exact ⟨(ih p hp).1, (ih p hp).2.trans h1.symm⟩
/-- A chain of corners that goes with all edges of a polygon, begins or ends outside: it is outside. -/
theorem chain_out {Q : List Pt} {w : Pt} {t : List Pt} (h : Simple Q) (hb : ∀ p ∈ w :: t, inB p) (hd : (w :: t).Nodup) (hn : ∀ p ∈ w :: t, p ∉ Q) (hc : ∀ e ∈ pe (w :: t), ∀ f ∈ Ed Q, Comp e.1 e.2 f.1 f.2)
    (ho : par (Ed Q) w = false ∨ par (Ed Q) (lastOf w t) = false) : ∀ p ∈ w :: t, par (Ed Q) p = false := by
  have key := chain_all (fun p => par (Ed Q) p) t w (fun e he => by
    have hm := pe_mem _ e he
    refine par_same h (hb _ hm.1) (hb _ hm.2) (pe_ne _ hd e he) (fun f hf => comp_notouch (hc e he f hf) ?_ ?_ ?_ ?_)
    · intro k; exact hn _ hm.1 (by rw [k]; exact (ed_mem hf).1)
    · intro k; exact hn _ hm.1 (by rw [k]; exact (ed_mem hf).2)
    · intro k; exact hn _ hm.2 (by rw [k]; exact (ed_mem hf).1)
    · intro k; exact hn _ hm.2 (by rw [k]; exact (ed_mem hf).2))
  intro p hp
  rcases ho with ho | ho
  · exact (key p hp).2.trans ho
  · exact (key p hp).1.trans ho
/-- A point under the highest corner's triangle lies lower. -/
theorem top_out {a b c v : Pt} (hT : 0 < cr a b c) (ha : ht a < ht v) (hb : ht b < ht v) (hc : ht c < ht v) : ¬ InT a b c v := by
 rintro ⟨h1, h2, h3⟩;have S := bary_sum a b c v;have B := bary_ht a b c v;have m1 := mul_pp h1 (show 0 ≤ ht v - ht c by omega);have m2 := mul_pp h2 (show 0 ≤ ht v - ht a by omega);have m3 := mul_pp h3 (show 0 ≤ ht v - ht b by omega);(have one : 0 < cr a b v ∨ 0 < cr b c v ∨ 0 < cr c a v := by omega);rcases one with k | k | k;(·have := Int.mul_pos k (show 0 < ht v - ht c by omega);grind);(·have := Int.mul_pos k (show 0 < ht v - ht a by omega);grind);(·have := Int.mul_pos k (show 0 < ht v - ht b by omega);grind)
/-- An ear of a part, away from the chord, whose triangle holds none of the other part: an ear of the whole. -/
theorem ear_lift {l Q : List Pt} {a b c x y : Pt} (he : EarAt Q a b c) (hsub : ∀ e ∈ Ed Q, e = (x, y) ∨ e ∈ Ed l) (hx : b ≠ x) (hy : b ≠ y) (ho : ∀ p ∈ l, p ∉ Q → ¬ InT a b c p) : EarAt l a b c := by
 obtain ⟨h1, h2, h3, h4⟩ := he;refine ⟨?_, ?_, h3, fun p hp e1 e2 e3 => ?_⟩;(·rcases hsub _ h1 with k | k;(·exact absurd (Prod.mk.inj k).2 hy);(·exact k));(·rcases hsub _ h2 with k | k;(·exact absurd (Prod.mk.inj k).1 hx);(·exact k));(·by_cases hq : p ∈ Q;(·exact h4 p hq e1 e2 e3);(·exact ho p hp hq))
/-- THE EARS: a simple polygon to the left around has, off each of its edges, an ear. -/
theorem ears : ∀ (n : Nat) (l : List Pt), l.length = n → Simple l → LL l = true → ∀ e ∈ Ed l, ∃ a b c, EarAt l a b c ∧ b ≠ e.1 ∧ b ≠ e.2 := by
  intro n
  induction n using Nat.strongRecOn with
  | _ n ih =>
    intro l hn h hL e he
    obtain ⟨s, t, v, w, r, rfl, eq, hr, hm⟩ := to_top h
    have h' := simple_turn h
    have hL' := (ll_turn h).trans hL
    have he' := (ed_turn s t e).2 he
    suffices hs : ∃ a b c, EarAt (t ++ s) a b c ∧ b ≠ e.1 ∧ b ≠ e.2 by
      obtain ⟨a, b, c, k, k1, k2⟩ := hs
      exact ⟨a, b, c, ear_turn k, k1, k2⟩
    rw [eq] at h' hL' he' ⊢
    have hlen : (v :: w :: r).length = n := by rw [← eq, ← hn]; simp; omega
    clear eq h hL hn he
    have hT : 0 < cr (lastOf w r) v w := of_decide_eq_true ((ll_top h' hm).symm.trans hL')
    obtain ⟨vw, vu, wu, iv, iw, iu, n1⟩ := corner_of h'
    have hnd := h'.2.1
    rw [List.nodup_cons, List.nodup_cons] at hnd
    have htop : ∀ p ∈ w :: r, ht p < ht v := by
      intro p hp
      have h1 := hm p hp
      have : ht p ≠ ht v := ht_ne (h'.2.2.1 p (List.mem_cons_of_mem _ hp)) iv (by rintro rfl; exact hnd.1 hp)
      omega
    rcases pick (lastOf w r) v w r with hp | ⟨z, hz, hzu, hi, hmax⟩
    · -- the corner v is an ear
      have ear : EarAt (v :: w :: r) (lastOf w r) v w := by
        refine ⟨by rw [ed_eq]; simp, by rw [ed_eq]; simp, hT, fun p hp' e1 e2 e3 => ?_⟩
        rcases List.mem_cons.1 hp' with k | k
        · exact absurd k e2
        · rcases List.mem_cons.1 k with k | k
          · exact absurd k e3
          · exact hp p k e1
      by_cases hv : v ≠ e.1 ∧ v ≠ e.2
      · exact ⟨_, _, _, ear, hv.1, hv.2⟩
      · -- the edge is at v
        have ends : (e.1 = v ∧ e.2 = w) ∨ (e.1 = lastOf w r ∧ e.2 = v) := by
          rw [ed_eq] at he'
          rcases List.mem_cons.1 he' with k | k
          · left; rw [k]; exact ⟨rfl, rfl⟩
          · rcases List.mem_append.1 k with k | k
            · exfalso
              have := pe_mem _ _ k
              refine hv ⟨?_, ?_⟩
              · intro q; exact hnd.1 (by rw [q]; exact this.1)
              · intro q; exact hnd.1 (by rw [q]; exact this.2)
            · right; simp at k; rw [k]; exact ⟨rfl, rfl⟩
        by_cases h2 : 2 ≤ r.length
        · have hs := simple_cut h' h2 hT hp
          obtain ⟨d, r', rfl⟩ : ∃ d r', r = d :: r' := by cases r with | nil => exact absurd rfl hr | cons d r' => exact ⟨d, r', rfl⟩
          have hr' : r' ≠ [] := by rintro rfl; simp at h2
          obtain ⟨x, u, rfl⟩ : ∃ x u, r' = x ++ [u] := ⟨r'.dropLast, r'.getLast hr', (List.dropLast_concat_getLast hr').symm⟩
          have lu : lastOf w (d :: (x ++ [u])) = u := lastOf_snoc u x d
          rw [lu] at hT hp ends
          have dn : d ≠ u := by
            have := hnd.2.2
            rw [List.nodup_cons] at this
            rintro rfl; exact this.1 (by simp)
          have hL2 := (ll_cut h' hs hT (hp d (by simp) dn)).trans hL'
          have eu : (u, w) ∈ Ed (w :: d :: (x ++ [u])) := by
            rw [ed_cons, pe_snoc, lu]; simp
          obtain ⟨a, b, c, k, k1, k2⟩ := ih (n - 1) (by simp at hlen; omega) _ (by simp at hlen ⊢; omega) hs hL2 _ eu
          simp only at k1 k2
          have hbQ := (ed_mem k.1).2
          refine ⟨a, b, c, ear_lift k (x := u) (y := w) (fun f hf => ?_) k1 k2 (fun p hp' hq => ?_), ?_, ?_⟩
          · rw [ed_cons, pe_snoc, lu] at hf
            rcases List.mem_append.1 hf with hf | hf
            · right; rw [ed_eq]; simp [hf]
            · left; simpa using hf
          · rcases List.mem_cons.1 hp' with q | q
            · subst q
              exact top_out k.2.2.1 (htop _ (ed_mem k.1).1) (htop _ (ed_mem k.1).2) (htop _ (ed_mem k.2.1).2)
            · exact absurd q hq
          · rcases ends with ⟨q, _⟩ | ⟨q, _⟩
            · rw [q]; rintro rfl; exact hnd.1 hbQ
            · rw [q]; exact k1
          · rcases ends with ⟨_, q⟩ | ⟨_, q⟩
            · rw [q]; exact k2
            · rw [q]; rintro rfl; exact hnd.1 hbQ
        · -- a triangle: the third corner
          obtain ⟨d, rfl⟩ : ∃ d, r = [d] := by
            match r with
            | [] => exact absurd rfl hr
            | [d] => exact ⟨d, rfl⟩
            | _ :: _ :: _ => simp at h2
          have lu : lastOf w [d] = d := rfl
          rw [lu] at hT ends vu wu
          rcases ends with ⟨q1, q2⟩ | ⟨q1, q2⟩
          · refine ⟨w, d, v, ⟨by simp [Ed, pe], by simp [Ed, pe], by rw [cr_rot2] at *; first | exact hT | (rw [← cr_rot]; exact hT) | (rw [cr_rot]; exact hT), fun p hp' e1 e2 e3 => ?_⟩, by rw [q1]; exact Ne.symm vu, by rw [q2]; exact Ne.symm wu⟩
            simp at hp'
            rcases hp' with k | k | k
            · exact absurd k e3
            · exact absurd k e1
            · exact absurd k e2
          · refine ⟨v, w, d, ⟨by simp [Ed, pe], by simp [Ed, pe], by rw [cr_rot]; exact hT, fun p hp' e1 e2 e3 => ?_⟩, by rw [q1]; exact wu, by rw [q2]; exact Ne.symm vw⟩
            simp at hp'
            rcases hp' with k | k | k
            · exact absurd k e1
            · exact absurd k e2
            · exact absurd k e3
    · obtain ⟨z1, z2, hc, hon⟩ := chord_all h' hT hz hzu hi hmax
      obtain ⟨c1, c2, rfl, hc2, hu⟩ := part_at hz hzu
      have hs := simple_split (v := v) (z := z) (c1 := w :: c1) (c2 := c2) h' (by simp) hc2 hc
      have len : (v :: w :: (c1 ++ z :: c2)).length = c1.length + c2.length + 3 := by simp; omega
      have l2 : 0 < c2.length := List.length_pos_iff.2 hc2
      have q : v :: w :: (c1 ++ z :: c2) = v :: ((w :: c1) ++ z :: c2) := rfl
      have a1 : LL (v :: (w :: c1 ++ [z])) = true := by
        have q : v :: (w :: c1 ++ [z]) = v :: w :: (c1 ++ [z]) := rfl
        rw [q, ll_top (by rw [← q]; exact hs.1) (fun p hp => hm p (by simp at hp ⊢; grind)), lastOf_snoc]
        exact decide_eq_true (by rw [cr_rot2] at *; first | exact z2 | (rw [← cr_rot]; exact z2))
      have a2 : LL (v :: z :: c2) = true := by
        rw [ll_top hs.2 (fun p hp => hm p (by simp at hp ⊢; grind)), ← hu]
        exact decide_eq_true z1
      rw [hu] at z1 hT n1
      -- which points are where
      have nd1 : (w :: (c1 ++ z :: c2)).Nodup := by rw [List.nodup_cons]; exact hnd.2
      have nd2 : ((w :: c1) ++ z :: c2).Nodup := nd1
      rw [List.nodup_append] at nd2
      obtain ⟨nd3, nd4, nd5⟩ := nd2
      have nz := nd4
      rw [List.nodup_cons] at nz
      have euv : (lastOf z c2, v) ∈ Ed (v :: w :: (c1 ++ z :: c2)) := by rw [ed_eq, hu]; simp
      have evw : (v, w) ∈ Ed (v :: w :: (c1 ++ z :: c2)) := by rw [ed_eq]; simp
      have um : lastOf z c2 ∈ c2 := by
        cases c2 with
        | nil => exact absurd rfl hc2
        | cons d c2 => exact lastOf_mem c2 d
      rw [q, ed_split] at he'
      rcases List.mem_append.1 he' with he1 | he2
      · -- the edge lies ahead of z: an ear of the second part
        have ez : (v, z) ∈ Ed (v :: z :: c2) := by rw [ed_two]; simp
        obtain ⟨a, b, c, k, k1, k2⟩ := ih _ (by simp at hlen ⊢; omega) _ rfl hs.2 a2 _ ez
        simp only at k1 k2
        have hbQ := (ed_mem k.1).2
        have hb : b ∈ c2 := by
          rcases List.mem_cons.1 hbQ with q | q
          · exact absurd q k1
          · rcases List.mem_cons.1 q with q | q
            · exact absurd q k2
            · exact q
        -- w is outside of the second part
        have hw : par (Ed (v :: z :: c2)) w = false := by
          have nzw : NO v z w := by
            have := hc _ evw
            exact comp_no (a := w) (w := v) (v := z) (comp_sym (comp_swap2 this)) (Ne.symm vw) (by rintro rfl; exact hnd.1 (by simp)) (fun q => nd5 w (by simp) z (by simp) q) |> fun k => ⟨k.1, k.2⟩
          have nuw : NO v (lastOf z c2) w := ⟨n1.2, n1.1⟩
          rw [cone hs.2 iw vw (fun f hf => ?_) nzw nuw, a2]
          · have : ¬ Cone (lastOf z c2) v z w := by
              unfold Cone
              rw [if_pos (by omega), cr_flip v w z]
              omega
            rw [decide_eq_false this]; rfl
          · have hm2 := pe_mem _ f hf
            have hF : f ∈ Ed (v :: w :: (c1 ++ z :: c2)) := by
              rw [q, ed_split]
              refine List.mem_append_right _ ?_
              rw [pe_snoc]; simp [hf]
            refine comp_notouch (h'.2.2.2 _ evw _ hF) ?_ ?_ ?_ ?_
            · intro q; have q : v = f.1 := q; exact hnd.1 (by rw [q]; have := hm2.1; simp at this ⊢; grind)
            · intro q; have q : v = f.2 := q; exact hnd.1 (by rw [q]; have := hm2.2; simp at this ⊢; grind)
            · intro q; exact nd5 w (by simp) f.1 hm2.1 q
            · intro q; exact nd5 w (by simp) f.2 hm2.2 q
        have out := chain_out (w := w) (t := c1) hs.2 (fun p hp => h'.2.2.1 p (by simp at hp ⊢; grind)) nd3 (fun p hp hq => by
          rcases List.mem_cons.1 hq with q | q
          · exact hnd.1 (by rw [← q]; simp at hp ⊢; grind)
          · exact nd5 p hp p q rfl) (fun f hf g hg => by
          have hF : f ∈ Ed (v :: w :: (c1 ++ z :: c2)) := by
            rw [q, ed_split]
            refine List.mem_append_left _ ?_
            rw [show v :: (w :: c1 ++ [z]) = v :: w :: (c1 ++ [z]) from rfl, pe_cons, pe_snoc]; simp [hf]
          rw [ed_two] at hg
          rcases List.mem_cons.1 hg with g' | g'
          · rw [g']; exact comp_sym (hc f hF)
          · exact h'.2.2.2 f hF g (by rw [q, ed_split]; exact List.mem_append_right _ g')) (.inl hw)
        refine ⟨a, b, c, ear_lift k (x := v) (y := z) (fun f hf => ?_) k1 k2 (fun p hp' hq hI => ?_), ?_, ?_⟩
        · rw [ed_two] at hf
          rcases List.mem_cons.1 hf with hf | hf
          · exact .inl hf
          · right; rw [q, ed_split]; exact List.mem_append_right _ hf
        · have hpc : p ∈ w :: c1 := by simp at hp' hq ⊢; grind
          have hpar := inside_ear hs.2 a2 k (h'.2.2.1 p hp') (fun f hf ho => ?_) hI
          · rw [out p hpc] at hpar; cases hpar
          · -- p is on no edge of the part
            obtain ⟨g, hg, hg1⟩ : ∃ g ∈ Ed (v :: w :: (c1 ++ z :: c2)), g.1 = p := by
              obtain ⟨s1, s2, e⟩ := List.append_of_mem hpc
              rw [q, e, ed_cons]
              cases s2 with
              | nil => exact ⟨(p, z), by rw [show v :: (s1 ++ [p] ++ z :: c2 ++ [v]) = (v :: s1) ++ p :: z :: (c2 ++ [v]) by simp, pe_split]; simp [pe], rfl⟩
              | cons x s2 => exact ⟨(p, x), by rw [show v :: (s1 ++ p :: x :: s2 ++ z :: c2 ++ [v]) = (v :: s1) ++ p :: x :: (s2 ++ z :: c2 ++ [v]) by simp, pe_split]; simp [pe], rfl⟩
            rw [ed_two] at hf
            rcases List.mem_cons.1 hf with g' | g'
            · rw [g'] at ho
              rcases hon p (by simp at hpc ⊢; grind) ho with k | k
              · exact hq (by rw [k]; simp)
              · exact hq (by rw [k]; simp)
            · have hF : f ∈ Ed (v :: w :: (c1 ++ z :: c2)) := by rw [q, ed_split]; exact List.mem_append_right _ g'
              have := (h'.2.2.2 f hF g hg).2.1 (by rw [hg1]; exact ho)
              rw [hg1] at this
              rcases this with k | k
              · exact hq (by rw [k]; have := ed_mem (l := v :: z :: c2) (e := f) (by rw [ed_two]; exact List.mem_cons_of_mem _ g'); exact this.1)
              · exact hq (by rw [k]; have := ed_mem (l := v :: z :: c2) (e := f) (by rw [ed_two]; exact List.mem_cons_of_mem _ g'); exact this.2)
        · have m := pe_mem _ _ he1
          intro k
          rw [← k] at m
          have := m.1
          simp at this
          rcases this with k | k | k | k
          · exact hnd.1 (by rw [← k]; simp; grind)
          · exact nd5 w (by simp) b (by simp [hb]) k.symm
          · exact nd5 b (by simp [k]) b (by simp [hb]) rfl
          · exact k2 k
        · have m := pe_mem _ _ he1
          intro k
          rw [← k] at m
          have := m.2
          simp at this
          rcases this with k | k | k | k
          · exact hnd.1 (by rw [← k]; simp; grind)
          · exact nd5 w (by simp) b (by simp [hb]) k.symm
          · exact nd5 b (by simp [k]) b (by simp [hb]) rfl
          · exact k2 k
      · -- the edge lies behind z: an ear of the first part
        have q1 : v :: (w :: c1 ++ [z]) = v :: w :: (c1 ++ [z]) := rfl
        have ez : (z, v) ∈ Ed (v :: (w :: c1 ++ [z])) := by rw [ed_one]; simp
        obtain ⟨a, b, c, k, k1, k2⟩ := ih _ (by simp at hlen ⊢; omega) _ rfl hs.1 a1 _ ez
        simp only at k1 k2
        have hbQ := (ed_mem k.1).2
        have hb : b ∈ w :: c1 := by simp at hbQ ⊢; grind
        have uz : lastOf z c2 ≠ z := fun q => nz.1 (by rw [← q]; exact um)
        have zv : v ≠ z := by rintro rfl; exact hnd.1 (by simp)
        have hw : par (Ed (v :: (w :: c1 ++ [z]))) (lastOf z c2) = false := by
          have nzu : NO v z (lastOf z c2) := comp_no (comp_sym (hc _ euv)) (by rw [← hu]; exact Ne.symm vu) zv uz
          have lz : lastOf w (c1 ++ [z]) = z := lastOf_snoc z c1 w
          have sq := hs.1
          rw [q1] at sq a1
          rw [q1, cone sq (by rw [← hu]; exact iu) (by rw [← hu]; exact vu) (fun f hf => ?_) n1 (by rw [lz]; exact nzu), a1, lz]
          · have : ¬ Cone z v w (lastOf z c2) := by
              unfold Cone
              have e1 : cr z v w = cr v w z := (cr_rot z v w).symm
              have e2 := cr_swap (lastOf z c2) v z
              rw [if_pos (by omega)]
              omega
            rw [decide_eq_false this]; rfl
          · have hm2 := pe_mem _ f hf
            have hF : f ∈ Ed (v :: w :: (c1 ++ z :: c2)) := by
              rw [q, ed_split]
              refine List.mem_append_left _ ?_
              rw [q1, pe_cons]; exact List.mem_cons_of_mem _ hf
            refine comp_notouch (comp_swap1 (h'.2.2.2 _ euv _ hF)) ?_ ?_ ?_ ?_
            · intro q; have q : v = f.1 := q; exact hnd.1 (by rw [q]; have := hm2.1; simp at this ⊢; grind)
            · intro q; have q : v = f.2 := q; exact hnd.1 (by rw [q]; have := hm2.2; simp at this ⊢; grind)
            · intro q; have q : lastOf z c2 = f.1 := q
              have m := hm2.1
              rw [← q] at m
              simp at m
              rcases m with m | m | m
              · exact nd5 w (by simp) _ (List.mem_cons_of_mem _ um) m.symm
              · exact nd5 _ (List.mem_cons_of_mem _ m) _ (List.mem_cons_of_mem _ um) rfl
              · exact uz m
            · intro q; have q : lastOf z c2 = f.2 := q
              have m := hm2.2
              rw [← q] at m
              simp at m
              rcases m with m | m | m
              · exact nd5 w (by simp) _ (List.mem_cons_of_mem _ um) m.symm
              · exact nd5 _ (List.mem_cons_of_mem _ m) _ (List.mem_cons_of_mem _ um) rfl
              · exact uz m
        have hdis : ∀ p ∈ c2, p ∉ v :: (w :: c1 ++ [z]) := by
          intro p hp hq
          simp at hq
          rcases hq with m | m | m | m
          · exact hnd.1 (by rw [← m]; simp; grind)
          · exact nd5 w (by simp) p (List.mem_cons_of_mem _ hp) m.symm
          · exact nd5 p (List.mem_cons_of_mem _ m) p (List.mem_cons_of_mem _ hp) rfl
          · exact nz.1 (by rw [← m]; exact hp)
        obtain ⟨d, r2, rfl⟩ : ∃ d r2, c2 = d :: r2 := by cases c2 with | nil => exact absurd rfl hc2 | cons d r2 => exact ⟨d, r2, rfl⟩
        have inE : ∀ f ∈ pe (d :: r2), f ∈ Ed (v :: w :: (c1 ++ z :: d :: r2)) := by
          intro f hf
          rw [q, ed_split]
          refine List.mem_append_right _ ?_
          rw [List.cons_append, pe_cons, pe_snoc]; simp [hf]
        have out := chain_out (w := d) (t := r2) hs.1 (fun p hp => h'.2.2.1 p (by simp at hp ⊢; grind)) nz.2 hdis (fun f hf g hg => by
          have hF := inE f hf
          rw [ed_one] at hg
          rcases List.mem_append.1 hg with g' | g'
          · exact h'.2.2.2 f hF g (by rw [q, ed_split]; exact List.mem_append_left _ g')
          · simp at g'; rw [g']; exact comp_sym (comp_swap1 (hc f hF))) (.inr hw)
        refine ⟨a, b, c, ear_lift k (x := z) (y := v) (fun f hf => ?_) k1 k2 (fun p hp' hq hI => ?_), ?_, ?_⟩
        · rw [ed_one] at hf
          rcases List.mem_append.1 hf with hf | hf
          · right; rw [q, ed_split]; exact List.mem_append_left _ hf
          · left; simpa using hf
        · have hpc : p ∈ d :: r2 := by simp at hp' hq ⊢; grind
          have hpar := inside_ear hs.1 a1 k (h'.2.2.1 p hp') (fun f hf ho => ?_) hI
          · rw [out p hpc] at hpar; cases hpar
          · obtain ⟨g, hg, hg1⟩ : ∃ g ∈ Ed (v :: w :: (c1 ++ z :: d :: r2)), g.1 = p := by
              obtain ⟨s1, s2, e⟩ := List.append_of_mem hpc
              rw [e, ed_cons]
              cases s2 with
              | nil => exact ⟨(p, v), by rw [show v :: (w :: (c1 ++ z :: (s1 ++ [p])) ++ [v]) = (v :: w :: (c1 ++ z :: s1)) ++ p :: [v] by simp, pe_split]; simp [pe], rfl⟩
              | cons x s2 => exact ⟨(p, x), by rw [show v :: (w :: (c1 ++ z :: (s1 ++ p :: x :: s2)) ++ [v]) = (v :: w :: (c1 ++ z :: s1)) ++ p :: x :: (s2 ++ [v]) by simp, pe_split]; simp [pe], rfl⟩
            have hm3 := ed_mem hf
            rw [ed_one] at hf
            rcases List.mem_append.1 hf with g' | g'
            · have hF : f ∈ Ed (v :: w :: (c1 ++ z :: d :: r2)) := by rw [q, ed_split]; exact List.mem_append_left _ g'
              have := (h'.2.2.2 f hF g hg).2.1 (by rw [hg1]; exact ho)
              rw [hg1] at this
              rcases this with k | k
              · exact hq (by rw [k]; exact hm3.1)
              · exact hq (by rw [k]; exact hm3.2)
            · simp at g'
              rw [g'] at ho
              rcases hon p (by simp at hpc ⊢; grind) (on_swap ho) with k | k
              · exact hq (by rw [k]; simp)
              · exact hq (by rw [k]; simp)
        · have m := pe_mem _ _ he2
          intro k
          rw [← k] at m
          have m := m.1
          rw [← List.cons_append] at m
          rcases List.mem_append.1 m with m | m
          · exact nd5 b hb b m rfl
          · simp at m; exact k2 m
        · have m := pe_mem _ _ he2
          intro k
          rw [← k] at m
          have m := m.2
          rw [← List.cons_append] at m
          rcases List.mem_append.1 m with m | m
          · exact nd5 b hb b m rfl
          · simp at m; exact k2 m
def pt (l : List Pt) (i : Nat) : Pt := l.getD i (0, 0)
theorem pt_get (l : List Pt) (i : Nat) (h : i < l.length) : pt l i = l[i] := by
 unfold pt;rw [List.getD_eq_getElem?_getD, List.getElem?_eq_getElem h];rfl
theorem pt_mem (l : List Pt) (i : Nat) (h : i < l.length) : pt l i ∈ l := by rw [pt_get l i h]; exact List.getElem_mem h
theorem pt_inj {l : List Pt} (hd : l.Nodup) {i j : Nat} (hi : i < l.length) (hj : j < l.length) (h : pt l i = pt l j) : i = j := by
 rw [pt_get l i hi, pt_get l j hj] at h;rw [List.Nodup, List.pairwise_iff_getElem] at hd;rcases Nat.lt_trichotomy i j with c | c | c;(·exact absurd h (hd i j hi hj c));(·exact c);(·exact absurd h.symm (hd j i hj hi c))
theorem pe_index : ∀ (m : List Pt) (e : Pt × Pt), e ∈ pe m ↔ ∃ i, i + 1 < m.length ∧ e = (pt m i, pt m (i + 1))
  | [], e => ⟨fun h => (by cases h), fun ⟨i, h, _⟩ => (by simp at h)⟩
  | [a], e => ⟨fun h => (by cases h), fun ⟨i, h, _⟩ => (by simp at h)⟩
  | a :: b :: t, e => by
    rw [pe_cons, List.mem_cons, pe_index (b :: t) e]
    constructor
    · rintro (h | ⟨i, h, k⟩)
      · exact ⟨0, by simp, h⟩
      · exact ⟨i + 1, by simp at h ⊢; omega, by rw [k]; rfl⟩
    · rintro ⟨i, h, k⟩
      cases i with
      | zero => left; rw [k]; rfl
      | succ i => right; exact ⟨i, by simp at h ⊢; omega, by rw [k]; rfl⟩
theorem ed_index (l : List Pt) (hl : 0 < l.length) (e : Pt × Pt) : e ∈ Ed l ↔ ∃ i, i < l.length ∧ e = (pt l i, pt l ((i + 1) % l.length)) := by
 (match l with |[] => (simp at hl) |a :: t => (rw [ed_cons, pe_index];(have h1 : ∀ i, i < (a :: t).length → pt (a :: (t ++ [a])) i = pt (a :: t) i := by intro i hi;unfold pt;rw [List.getD_eq_getElem?_getD, List.getD_eq_getElem?_getD, ← List.cons_append, List.getElem?_append_left hi]);(have h2 : ∀ i, i < (a :: t).length → pt (a :: (t ++ [a])) (i + 1) = pt (a :: t) ((i + 1) % (a :: t).length) := by intro i hi;by_cases c : i + 1 < (a :: t).length;(·rw [Nat.mod_eq_of_lt c, h1 _ c]);(·(have : i + 1 = (a :: t).length := by omega);rw [this, Nat.mod_self];unfold pt;rw [List.getD_eq_getElem?_getD, ← List.cons_append, List.getElem?_append_right (Nat.le_refl _), Nat.sub_self];rfl));(have hlen : (a :: (t ++ [a])).length = (a :: t).length + 1 := by simp);rw [hlen];constructor;(·rintro ⟨i, h, k⟩;exact ⟨i, by omega, by rw [k, h1 i (by omega), h2 i (by omega)]⟩);(·rintro ⟨i, h, k⟩;exact ⟨i, by omega, by rw [k, h1 i h, h2 i h]⟩)))
/-- A valid polygon, said by the numbers of its corners. -/
def IValid (l : List Pt) : Prop := 3 ≤ l.length ∧ (∀ p ∈ l, inB p) ∧ ∀ i, i < l.length →
  (pt l i ≠ pt l ((i + 1) % l.length) ∧ ¬ On (pt l i) (pt l ((i + 1) % l.length)) (pt l ((i + 2) % l.length)) ∧ ¬ On (pt l ((i + 1) % l.length)) (pt l ((i + 2) % l.length)) (pt l i)) ∧
  ∀ j, i + 2 ≤ j → j < l.length → (j + 1) % l.length ≠ i → ¬ Touch (pt l i) (pt l ((i + 1) % l.length)) (pt l j) (pt l ((j + 1) % l.length))
theorem comp_of_notouch {a b c d : Pt} (h : ¬ Touch a b c d) : Comp a b c d :=
  ⟨fun k => h (.inl k), fun k => absurd (.inr (.inl k)) h, fun k => absurd (.inr (.inr (.inl k))) h, fun k => absurd (.inr (.inr (.inr (.inl k)))) h, fun k => absurd (.inr (.inr (.inr (.inr k)))) h⟩
theorem comp_next {a b c : Pt} (h1 : ¬ On a b c) (h2 : ¬ On b c a) : Comp a b b c := by
 refine ⟨fun k => ?_, fun _ => .inr rfl, fun k => absurd k h1, fun k => absurd k h2, fun _ => .inl rfl⟩;have := k.1;rw [cr_self3] at this;omega
theorem simple_of {l : List Pt} (h : IValid l) : Simple l := by
 obtain ⟨h3, hb, hg⟩ := h;(have key : ∀ i j, i < j → j < l.length → Comp (pt l i) (pt l ((i + 1) % l.length)) (pt l j) (pt l ((j + 1) % l.length)) ∧ pt l i ≠ pt l j := by intro i j hij hj;(have hi : i < l.length := by omega);by_cases c1 : j = i + 1;(·subst c1;have g := (hg i hi).1;have e1 : (i + 1) % l.length = i + 1 := Nat.mod_eq_of_lt hj;have e2 : i + 1 + 1 = i + 2 := rfl;rw [e1] at g ⊢;rw [e2];exact ⟨comp_next g.2.1 g.2.2, g.1⟩);(·by_cases c2 : (j + 1) % l.length = i;(·have g := (hg j hj).1;(have e2 : (j + 2) % l.length = (i + 1) % l.length := by have : j + 2 = (j + 1) + 1 := rfl;rw [this, Nat.add_mod, c2, Nat.add_mod i 1];(have hj1 : j + 1 = l.length := by apply Decidable.byContradiction;intro q;rw [Nat.mod_eq_of_lt (by omega)] at c2;omega);(have hi0 : i = 0 := by rw [hj1, Nat.mod_self] at c2; exact c2.symm);subst hi0;simp);rw [c2, e2] at g;rw [c2];exact ⟨comp_sym (comp_next g.2.1 g.2.2), Ne.symm g.1⟩);(·have g := (hg i hi).2 j (by omega) hj c2;exact ⟨comp_of_notouch g, (notouch_ne g).1⟩)));refine ⟨h3, ?_, hb, ?_⟩;(·rw [List.Nodup, List.pairwise_iff_getElem];intro i j hi hj hij e;rw [← pt_get l i hi, ← pt_get l j hj] at e;exact (key i j hij hj).2 e);(·intro e he f hf;obtain ⟨i, hi, rfl⟩ := (ed_index l (by omega) e).1 he;obtain ⟨j, hj, rfl⟩ := (ed_index l (by omega) f).1 hf;rcases Nat.lt_trichotomy i j with c | c | c;(·exact (key i j c hj).1);(·subst c; exact comp_self _ _);(·exact comp_sym (key j i c hi).1))
/-! ### The other way round -/
theorem pe_rev : ∀ (l : List Pt) (e : Pt × Pt), e ∈ pe l.reverse ↔ (e.2, e.1) ∈ pe l
  | [], e => ⟨fun h => (by cases h), fun h => (by cases h)⟩
  | [a], e => ⟨fun h => (by cases h), fun h => (by cases h)⟩
  | a :: b :: t, e => by
    rw [pe_cons, List.mem_cons, ← pe_rev (b :: t) (e.1, e.2)]
    have : (a :: b :: t).reverse = t.reverse ++ b :: [a] := by simp
    rw [this, pe_split, List.mem_append]
    have e2 : (b :: t).reverse = t.reverse ++ [b] := by simp
    rw [e2]
    constructor
    · rintro (h | h)
      · exact .inr h
      · simp [pe] at h; left; rw [h]
    · rintro (h | h)
      · right; simp [pe]; obtain ⟨e1, e2⟩ := e; simp at h ⊢; exact ⟨h.2, h.1⟩
      · exact .inl h
theorem sa_rev : ∀ (l : List Pt), sa (pe l.reverse) = - sa (pe l)
  | [] => rfl
  | [a] => rfl
  | a :: b :: t => by
    have : (a :: b :: t).reverse = t.reverse ++ b :: [a] := by simp
    have e2 : (b :: t).reverse = t.reverse ++ [b] := by simp
    rw [this, pe_split, sa_append, pe_cons, sa, ← e2, sa_rev (b :: t)]
    simp [pe, sa]
    have := Int.mul_comm b.1 a.2
    have := Int.mul_comm b.2 a.1
    omega
/-- The corners the other way round, the first kept. -/
def back (l : List Pt) : List Pt := match l with | [] => [] | a :: t => a :: t.reverse
theorem back_edge (a : Pt) (t : List Pt) : a :: (t.reverse ++ [a]) = (a :: (t ++ [a])).reverse := by simp
theorem simple_back {l : List Pt} (h : Simple l) : Simple (back l) := by
 (match l with |[] => (exact h) |a :: t => (obtain ⟨h1, h2, h3, h4⟩ := h;refine ⟨by simpa [back] using h1, ?_, fun p hp => h3 p (by simpa [back] using hp), fun e he f hf => ?_⟩;(·rw [List.nodup_cons] at h2;simp [back, List.nodup_cons];exact ⟨h2.1, by rw [List.Nodup, List.pairwise_reverse]; exact h2.2.imp (fun h => Ne.symm h)⟩);(·(have he' : (e.2, e.1) ∈ Ed (a :: t) := by unfold back at he;simp only at he;rw [ed_cons, back_edge, pe_rev] at he;exact he);(have hf' : (f.2, f.1) ∈ Ed (a :: t) := by unfold back at hf;simp only at hf;rw [ed_cons, back_edge, pe_rev] at hf;exact hf);exact comp_swap1 (comp_swap2 (h4 _ he' _ hf')))))
theorem area_back (l : List Pt) : area (back l) = - area l := by
 (match l with |[] => (rfl) |a :: t => (unfold area back;simp only;rw [ed_cons, back_edge, sa_rev];rfl))
/-- A simple polygon with a positive area goes to the left around. -/
theorem ll_of_area {l : List Pt} (h : Simple l) (ha : 0 < area l) : LL l = true := by
  apply Decidable.byContradiction
  intro hL
  have hL := Bool.eq_false_iff.2 hL
  obtain ⟨s, t, v, w, r, rfl, eq, hr, hm⟩ := to_top h
  have h' := simple_turn h
  have hL' := (ll_turn h).trans hL
  rw [← area_turn] at ha
  rw [eq] at h' hL' ha
  have hT : ¬ 0 < cr (lastOf w r) v w := of_decide_eq_false ((ll_top h' hm).symm.trans hL')
  obtain ⟨vw, vu, wu, iv, iw, iu, n1⟩ := corner_of h'
  have hb := simple_back h'
  have hx : r.reverse ++ [w] ≠ [] := by simp
  -- the corners back: v, the last one, .., w
  obtain ⟨x, q, hq⟩ : ∃ x q, (w :: r).reverse = x :: q := by
    cases hc : (w :: r).reverse with
    | nil => simp at hc
    | cons x q => exact ⟨x, q, rfl⟩
  have eb : back (v :: w :: r) = v :: x :: q := by unfold back; simp only; rw [hq]
  have lx : x = lastOf w r := by
    have : (w :: r).reverse.head? = some (lastOf w r) := by
      have : ∀ (r : List Pt) (w : Pt), (w :: r).reverse.head? = some (lastOf w r) := by
        intro r
        induction r with
        | nil => intro w; rfl
        | cons b r ih =>
          intro w
          rw [lastOf, ← ih b]
          simp only [List.reverse_cons, List.append_assoc]
          cases r.reverse <;> rfl
      exact this r w
    rw [hq] at this
    simpa using this
  have lq : lastOf x q = w := by
    have : ∀ (q : List Pt) (x : Pt), (x :: q).getLast? = some (lastOf x q) := by
      intro q
      induction q with
      | nil => intro x; rfl
      | cons b q ih => intro x; rw [List.getLast?_cons_cons]; exact ih b
    have h1 := this q x
    rw [← hq, List.getLast?_reverse] at h1
    simpa using h1.symm
  rw [eb] at hb
  have mem : ∀ p ∈ x :: q, ht p ≤ ht v := fun p hp => hm p (by rw [← hq] at hp; simp at hp ⊢; exact hp.symm)
  have hl := ll_top hb mem
  rw [lq, lx] at hl
  have c0 : cr (lastOf w r) v w ≠ 0 := by
    intro e
    have e' : cr v w (lastOf w r) = 0 := by rw [cr_rot]; exact e
    have := no_sign iv iw iu vw vu n1 e'
    have m1 := hm w (by simp)
    have m2 := hm _ (lastOf_mem r w)
    have m3 := ht_ne iv iu vu
    omega
  have pos : 0 < cr w v (lastOf w r) := by
    have : cr w v (lastOf w r) = - cr (lastOf w r) v w := by rw [cr_swap, cr_rot]
    omega
  rw [lx] at hb eb
  rw [decide_eq_true pos] at hl
  have := area_pos _ _ rfl hb hl
  rw [← eb, area_back] at this
  omega
/-! ### Ears by their numbers -/
def EarI (l : List Pt) (i : Nat) : Prop := 0 < cr (pt l ((i + l.length - 1) % l.length)) (pt l i) (pt l ((i + 1) % l.length)) ∧
  ∀ m, m < l.length → m ≠ i → m ≠ (i + l.length - 1) % l.length → m ≠ (i + 1) % l.length → ¬ InT (pt l ((i + l.length - 1) % l.length)) (pt l i) (pt l ((i + 1) % l.length)) (pt l m)
theorem prev_next {n i j : Nat} (hi : i < n) (hj : j < n) (h : (j + 1) % n = i) : j = (i + n - 1) % n := by
 by_cases c : j + 1 < n;(·rw [Nat.mod_eq_of_lt c] at h;subst h;(have : j + 1 + n - 1 = j + n := by omega);rw [this, Nat.add_mod_right, Nat.mod_eq_of_lt hj]);(·(have : j + 1 = n := by omega);rw [this, Nat.mod_self] at h;subst h;rw [Nat.zero_add, Nat.mod_eq_of_lt (by omega)];omega)
theorem next_prev {n i : Nat} (hi : i < n) : ((i + n - 1) % n + 1) % n = i := by
 by_cases c : i = 0;(·subst c;rw [Nat.zero_add, Nat.mod_eq_of_lt (show n - 1 < n by omega), show n - 1 + 1 = n by omega, Nat.mod_self]);(·(have : i + n - 1 = (i - 1) + n := by omega);rw [this, Nat.add_mod_right, Nat.mod_eq_of_lt (show i - 1 < n by omega), show i - 1 + 1 = i by omega, Nat.mod_eq_of_lt hi])
/-- There is an ear. -/
theorem ear_exists {l : List Pt} (h : Simple l) (hL : LL l = true) : ∃ i, i < l.length ∧ EarI l i := by
 have h3 := h.1;have hd := h.2.1;have he : (pt l 0, pt l ((0 + 1) % l.length)) ∈ Ed l := (ed_index l (by omega) _).2 ⟨0, by omega, rfl⟩;obtain ⟨a, b, c, ⟨k1, k2, k3, k4⟩, _, _⟩ := ears _ l rfl h hL _ he;obtain ⟨i, hi, e1⟩ := (ed_index l (by omega) _).1 k2;obtain ⟨j, hj, e2⟩ := (ed_index l (by omega) _).1 k1;obtain ⟨rfl, rfl⟩ := Prod.mk.inj e1;obtain ⟨rfl, e3⟩ := Prod.mk.inj e2;have hji := prev_next hi hj (pt_inj hd hi (Nat.mod_lt _ (by omega)) e3).symm;subst hji;refine ⟨i, hi, k3, fun m hm n1 n2 n3 => k4 _ (pt_mem l m hm) ?_ ?_ ?_⟩;(·intro e; exact n2 (pt_inj hd hm hj e));(·intro e; exact n1 (pt_inj hd hm hi e));(·intro e; exact n3 (pt_inj hd hm (Nat.mod_lt _ (by omega)) e))
/-- Cutting an ear leaves a simple polygon, the same way round. -/
theorem ear_cut {l : List Pt} (h : Simple l) (hL : LL l = true) (h4 : 4 ≤ l.length) {i : Nat} (hi : i < l.length) (he : EarI l i) : Simple (l.eraseIdx i) ∧ LL (l.eraseIdx i) = true := by
  have hd := h.2.1
  -- the corner i first
  have hs : l = l.take i ++ l[i] :: l.drop (i + 1) := by rw [← List.drop_eq_getElem_cons hi, List.take_append_drop]
  have hE : l.eraseIdx i = l.take i ++ l.drop (i + 1) := List.eraseIdx_eq_take_drop_succ l i
  obtain ⟨s, hS⟩ : ∃ s, s = l.take i := ⟨_, rfl⟩
  obtain ⟨t, hT⟩ : ∃ t, t = l.drop (i + 1) := ⟨_, rfl⟩
  obtain ⟨v, hv⟩ : ∃ v, v = l[i] := ⟨_, rfl⟩
  have ev : pt l i = v := by rw [pt_get l i hi, hv]
  rw [← hS, ← hT, ← hv] at hs
  rw [hE, ← hS, ← hT]
  have e1 : (pt l ((i + l.length - 1) % l.length), v) ∈ Ed l := by
    rw [ed_index l (by omega)]
    exact ⟨(i + l.length - 1) % l.length, Nat.mod_lt _ (by omega), by rw [next_prev hi, ev]⟩
  have e2 : (v, pt l ((i + 1) % l.length)) ∈ Ed l := by
    rw [ed_index l (by omega)]
    exact ⟨i, hi, by rw [ev]⟩
  obtain ⟨k1, k2⟩ := he
  rw [ev] at k1 k2
  have k3 : ∀ p ∈ l, p ≠ v → p ≠ pt l ((i + l.length - 1) % l.length) → p ≠ pt l ((i + 1) % l.length) → ¬ InT (pt l ((i + l.length - 1) % l.length)) v (pt l ((i + 1) % l.length)) p := by
    intro p hp n1 n2 n3
    obtain ⟨m, hm, rfl⟩ := List.mem_iff_getElem.1 hp
    rw [← pt_get l m hm] at n1 n2 n3 ⊢
    exact k2 m hm (by rintro rfl; exact n1 ev) (by rintro rfl; exact n2 rfl) (by rintro rfl; exact n3 rfl)
  generalize pt l ((i + l.length - 1) % l.length) = u at e1 k1 k3
  generalize pt l ((i + 1) % l.length) = w at e2 k1 k3
  clear k2 ev hE hS hT hv hi
  subst hs
  have h' := simple_turn (s := s) (t := v :: t) h
  have hL' := (ll_turn (s := s) (t := v :: t) h).trans hL
  have e1' := (ed_turn s (v :: t) _).2 e1
  have e2' := (ed_turn s (v :: t) _).2 e2
  have len : 3 ≤ (t ++ s).length := by simp at h4 ⊢; omega
  have back : Simple (t ++ s) ∧ LL (t ++ s) = true → Simple (s ++ t) ∧ LL (s ++ t) = true := fun k => ⟨simple_turn k.1, (ll_turn k.1).trans k.2⟩
  apply back
  have hmem : ∀ p ∈ t ++ s, p ∈ s ++ v :: t := by intro p hp; simp at hp ⊢; grind
  rw [List.cons_append] at h' hL' e1' e2'
  generalize t ++ s = m at h' hL' e1' e2' len hmem ⊢
  match m with
  | [] => simp at len
  | x :: r =>
    have hnd := h'.2.1
    rw [List.nodup_cons] at hnd
    have hw : w = x := by
      rw [ed_eq] at e2'
      rcases List.mem_cons.1 e2' with k | k
      · exact (Prod.mk.inj k).2
      · rcases List.mem_append.1 k with k | k
        · exact absurd (pe_mem _ _ k).1 hnd.1
        · simp at k; exact absurd (by rw [k.1]; exact lastOf_mem r x) hnd.1
    subst hw
    have hu : u = lastOf w r := ed_prev h'.2.1 e1' (ed_ne h e1)
    subst hu
    have hp : ∀ p ∈ r, p ≠ lastOf w r → ¬ InT (lastOf w r) v w p := by
      intro p hp n
      have hx := hnd.2
      rw [List.nodup_cons] at hx
      exact k3 p (hmem p (List.mem_cons_of_mem _ hp)) (by rintro rfl; exact hnd.1 (List.mem_cons_of_mem _ hp)) n (by rintro rfl; exact hx.1 hp)
    have hl2 : 2 ≤ r.length := by simp at len; omega
    have hs := simple_cut h' hl2 k1 hp
    refine ⟨hs, ?_⟩
    obtain ⟨d, r', rfl⟩ : ∃ d r', r = d :: r' := by cases r with | nil => simp at hl2 | cons d r' => exact ⟨d, r', rfl⟩
    have hr' : r' ≠ [] := by rintro rfl; simp at hl2
    obtain ⟨y, z, rfl⟩ : ∃ y z, r' = y ++ [z] := ⟨r'.dropLast, r'.getLast hr', (List.dropLast_concat_getLast hr').symm⟩
    have lu : lastOf w (d :: (y ++ [z])) = z := lastOf_snoc z y d
    rw [lu] at k1 hp
    have dn : d ≠ z := by
      have := hnd.2
      rw [List.nodup_cons, List.nodup_cons] at this
      rintro rfl; exact this.2.1 (by simp)
    exact (ll_cut h' hs k1 (hp d (by simp) dn)).trans hL'
end Go.Proofs.Ytlnbppilafoeoaa.Geo
namespace Go.Proofs.Ytlnbppilafoeoaa.MaGeoC
theorem here : True := trivial
end Go.Proofs.Ytlnbppilafoeoaa.MaGeoC
