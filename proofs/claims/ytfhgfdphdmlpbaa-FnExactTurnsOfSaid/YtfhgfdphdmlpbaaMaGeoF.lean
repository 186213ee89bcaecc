/- Plain facts that the proofs of this seat use. -/
import Derived.Test.YtfhgfdphdmlpbaaMaGeoC
/-! Turning, mirroring and shifting a polygon. -/
namespace Go.Proofs.Ytfhgfdphdmlpbaa.Geo
set_option linter.unusedVariables false
set_option linter.unusedSimpArgs false
/-- A turn, a mirror image and a shift: what sides become. -/
def Keeps (f : Pt → Pt) (σ : Int) : Prop := (∀ a b c, cr (f a) (f b) (f c) = σ * cr a b c) ∧ ∀ a b p, On (f a) (f b) (f p) ↔ On a b p
def aff (a b c d e g : Int) (p : Pt) : Pt := (a * p.1 + b * p.2 + e, c * p.1 + d * p.2 + g)
theorem btw_neg {a b p e : Int} : Btw (-a + e) (-b + e) (-p + e) ↔ Btw a b p := by unfold Btw; omega
theorem keeps_aff {a b c d e g : Int} (h : (a = 0 ∧ d = 0 ∧ (b = 1 ∨ b = -1) ∧ (c = 1 ∨ c = -1)) ∨ (b = 0 ∧ c = 0 ∧ (a = 1 ∨ a = -1) ∧ (d = 1 ∨ d = -1))) : Keeps (aff a b c d e g) (a * d - b * c) := by
  have hc : ∀ x y z, cr (aff a b c d e g x) (aff a b c d e g y) (aff a b c d e g z) = (a * d - b * c) * cr x y z := by
    intro x y z; unfold cr aff; simp only; grind
  refine ⟨hc, fun x y z => ?_⟩
  have hs : (a * d - b * c) * cr x y z = 0 ↔ cr x y z = 0 := by
    have : a * d - b * c = 1 ∨ a * d - b * c = -1 := by
      rcases h with ⟨rfl, rfl, h1 | h1, h2 | h2⟩ | ⟨rfl, rfl, h1 | h1, h2 | h2⟩ <;> subst h1 <;> subst h2 <;> decide
    rcases this with e | e <;> rw [e] <;> omega
  unfold On
  rw [hc, hs]
  refine and_congr_right fun _ => ?_
  unfold aff
  simp only
  rcases h with ⟨rfl, rfl, h1, h2⟩ | ⟨rfl, rfl, h1, h2⟩
  · rcases h1 with rfl | rfl <;> rcases h2 with rfl | rfl <;> unfold Btw <;> constructor <;> intro h <;> omega
  · rcases h1 with rfl | rfl <;> rcases h2 with rfl | rfl <;> unfold Btw <;> constructor <;> intro h <;> omega
theorem keeps_crs {f : Pt → Pt} {σ : Int} (h : Keeps f σ) (hσ : σ = 1 ∨ σ = -1) (a b c d : Pt) : Crs (f a) (f b) (f c) (f d) ↔ Crs a b c d := by
  unfold Crs
  rw [h.1, h.1, h.1, h.1]
  rcases hσ with rfl | rfl
  · simp
  · have e : ∀ x y : Int, (-1 * x) * (-1 * y) = x * y := fun x y => by grind
    rw [e, e]
theorem keeps_comp {f : Pt → Pt} {σ : Int} (h : Keeps f σ) (hσ : σ = 1 ∨ σ = -1) (hi : ∀ a b, f a = f b ↔ a = b) {a b c d : Pt} (k : Comp a b c d) : Comp (f a) (f b) (f c) (f d) := by
  unfold Comp at *
  rw [keeps_crs h hσ, h.2, h.2, h.2, h.2]
  simp only [hi]
  exact k
theorem pe_map' (f : Pt → Pt) : ∀ l : List Pt, pe (l.map f) = (pe l).map fun e => (f e.1, f e.2)
  | [] => rfl
  | [_] => rfl
  | a :: b :: t => by
    rw [List.map_cons, List.map_cons, pe_cons, pe_cons, List.map_cons, ← pe_map' f (b :: t)]
    rfl
theorem ed_map' (f : Pt → Pt) (l : List Pt) : Ed (l.map f) = (Ed l).map fun e => (f e.1, f e.2) := by
  match l with
  | [] => rfl
  | a :: t =>
    rw [List.map_cons, ed_cons, ed_cons, ← pe_map']
    simp
theorem simple_keeps {f : Pt → Pt} {σ : Int} (h : Keeps f σ) (hσ : σ = 1 ∨ σ = -1) (hi : ∀ a b, f a = f b ↔ a = b) {l : List Pt} (hl : Simple l) (hb : ∀ p ∈ l, inB (f p)) : Simple (l.map f) := by
  obtain ⟨h1, h2, h3, h4⟩ := hl
  refine ⟨by simpa using h1, ?_, fun p hp => ?_, fun e he k hk => ?_⟩
  · rw [List.Nodup, List.pairwise_map]
    exact h2.imp (fun {a b} h k => h ((hi a b).1 k))
  · obtain ⟨q, hq, rfl⟩ := List.mem_map.1 hp
    exact hb q hq
  · rw [ed_map'] at he hk
    obtain ⟨e', he', rfl⟩ := List.mem_map.1 he
    obtain ⟨k', hk', rfl⟩ := List.mem_map.1 hk
    exact keeps_comp h hσ hi (h4 _ he' _ hk')
theorem aff_inj {a b c d e g : Int} (h : (a = 0 ∧ d = 0 ∧ (b = 1 ∨ b = -1) ∧ (c = 1 ∨ c = -1)) ∨ (b = 0 ∧ c = 0 ∧ (a = 1 ∨ a = -1) ∧ (d = 1 ∨ d = -1))) (x y : Pt) : aff a b c d e g x = aff a b c d e g y ↔ x = y := by
  refine ⟨fun k => ?_, fun k => by rw [k]⟩
  unfold aff at k
  have k1 := congrArg Prod.fst k
  have k2 := congrArg Prod.snd k
  simp only at k1 k2
  rcases h with ⟨rfl, rfl, h1, h2⟩ | ⟨rfl, rfl, h1, h2⟩ <;> rcases h1 with rfl | rfl <;> rcases h2 with rfl | rfl <;> exact Prod.ext (by omega) (by omega)
/-- The area of a row of edges that closes, moved. -/
theorem sa_aff (a b c d e g : Int) : ∀ (t : List Pt) (w : Pt), sa (pe ((w :: t).map (aff a b c d e g))) = (a * d - b * c) * sa (pe (w :: t)) + (e * ((aff a b c d 0 0 (lastOf w t)).2 - (aff a b c d 0 0 w).2) - g * ((aff a b c d 0 0 (lastOf w t)).1 - (aff a b c d 0 0 w).1))
  | [], w => by simp [pe, sa, lastOf]
  | x :: t, w => by
    have ih := sa_aff a b c d e g t x
    rw [List.map_cons, List.map_cons, pe_cons, sa, ← List.map_cons (f := aff a b c d e g), ih, pe_cons, sa, lastOf]
    unfold aff
    simp only
    grind
theorem area_aff (a b c d e g : Int) (l : List Pt) : area (l.map (aff a b c d e g)) = (a * d - b * c) * area l := by
  match l with
  | [] => simp [area, Ed, sa]
  | x :: t =>
    have := sa_aff a b c d e g (t ++ [x]) x
    rw [lastOf_snoc] at this
    unfold area
    have e1 : Ed ((x :: t).map (aff a b c d e g)) = pe ((x :: (t ++ [x])).map (aff a b c d e g)) := by
      rw [List.map_cons, ed_cons]; simp
    rw [e1, this, ed_cons]
    simp
/-- A simple polygon is a valid one. -/
theorem ivalid_of_simple {l : List Pt} (h : Simple l) : IValid l := by
  obtain ⟨h3, hd, hb, hc⟩ := h
  have m : ∀ i, i % l.length < l.length := fun i => Nat.mod_lt _ (by omega)
  have E : ∀ i, i < l.length → (pt l i, pt l ((i + 1) % l.length)) ∈ Ed l := fun i hi => (ed_index l (by omega) _).2 ⟨i, hi, rfl⟩
  have inj : ∀ i j, i < l.length → j < l.length → i ≠ j → pt l i ≠ pt l j := fun i j hi hj n e => n (pt_inj hd hi hj e)
  have step : ∀ i, i < l.length → (i + 1) % l.length = if i + 1 = l.length then 0 else i + 1 := by
    intro i hi
    split
    · rename_i c; rw [c, Nat.mod_self]
    · rw [Nat.mod_eq_of_lt (by omega)]
  refine ⟨h3, hb, fun i hi => ?_⟩
  have s1 := step i hi
  have s2 := step _ (m (i + 1))
  have e2 : ((i + 1) % l.length + 1) % l.length = (i + 2) % l.length := by rw [Nat.mod_add_mod]
  rw [e2] at s2
  have n01 : i ≠ (i + 1) % l.length := by rw [s1]; split <;> omega
  have n02 : i ≠ (i + 2) % l.length := by rw [s2, s1]; split <;> split <;> omega
  have n12 : (i + 1) % l.length ≠ (i + 2) % l.length := by
    rw [s2]
    have := m (i + 1)
    split <;> omega
  have hE := E _ (m (i + 1))
  rw [e2] at hE
  have C := hc _ (E i hi) _ hE
  refine ⟨⟨inj _ _ hi (m _) n01, fun ho => ?_, fun ho => ?_⟩, fun j h1 h2 h4 => ?_⟩
  · rcases C.2.2.1 ho with k | k
    · exact inj _ _ hi (m _) n02 k.symm
    · exact inj _ _ (m _) (m _) n12 k.symm
  · rcases C.2.2.2.1 ho with k | k
    · exact inj _ _ hi (m _) n01 k
    · exact inj _ _ hi (m _) n02 k
  · refine comp_notouch (hc _ (E i hi) _ (E j h2)) (inj _ _ hi h2 (by omega)) (inj _ _ hi (m _) (Ne.symm h4)) ?_ ?_
    · refine inj _ _ (m _) h2 ?_
      rw [s1]; split <;> omega
    · refine inj _ _ (m _) (m _) ?_
      rw [s1, step j h2]; split <;> split <;> omega
theorem back_get (l : List Pt) (i : Nat) (hi : i < l.length) : pt (back l) i = pt l ((l.length - i) % l.length) := by
  match l with
  | [] => simp at hi
  | a :: t =>
    by_cases h0 : i = 0
    · subst h0
      simp [back, pt]
    · obtain ⟨j, rfl⟩ : ∃ j, i = j + 1 := ⟨i - 1, by omega⟩
      rw [List.length_cons] at hi ⊢
      have e : t.length + 1 - (j + 1) = (t.length - 1 - j) + 1 := by omega
      rw [Nat.mod_eq_of_lt (by omega), e]
      unfold back pt
      simp only [List.getD_cons_succ]
      rw [List.getD_eq_getElem?_getD, List.getElem?_reverse (by omega), List.getD_eq_getElem?_getD]
theorem back_length (l : List Pt) : (back l).length = l.length := by
  match l with
  | [] => rfl
  | a :: t => simp [back]
theorem ext_pt {l m : List Pt} (h : l.length = m.length) (e : ∀ i, i < l.length → pt l i = pt m i) : l = m := by
  apply List.ext_getElem h
  intro i h1 h2
  rw [← pt_get l i h1, ← pt_get m i h2]
  exact e i h1
def Iso (a b c d : Int) : Prop := (a = 0 ∧ d = 0 ∧ (b = 1 ∨ b = -1) ∧ (c = 1 ∨ c = -1)) ∨ (b = 0 ∧ c = 0 ∧ (a = 1 ∨ a = -1) ∧ (d = 1 ∨ d = -1))
theorem iso_det {a b c d : Int} (h : Iso a b c d) : a * d - b * c = 1 ∨ a * d - b * c = -1 := by
  rcases h with ⟨rfl, rfl, h1 | h1, h2 | h2⟩ | ⟨rfl, rfl, h1 | h1, h2 | h2⟩ <;> subst h1 <;> subst h2 <;> decide
/-- A polygon turned and shifted; one that was mirrored goes the other way round. -/
def movedL (a b c d e g : Int) (l : List Pt) : List Pt := if a * d - b * c < 0 then back (l.map (aff a b c d e g)) else l.map (aff a b c d e g)
theorem moved {a b c d e g : Int} (h : Iso a b c d) {l : List Pt} (hl : Simple l) (hb : ∀ p ∈ l, inB (aff a b c d e g p)) : Simple (movedL a b c d e g l) ∧ area (movedL a b c d e g l) = area l := by
  have hS := simple_keeps (keeps_aff (e := e) (g := g) h) (iso_det h) (aff_inj h) hl hb
  have hA := area_aff a b c d e g l
  unfold movedL
  rcases iso_det h with k | k
  · rw [if_neg (by omega)]
    rw [k] at hA
    exact ⟨hS, by omega⟩
  · rw [if_pos (by omega)]
    rw [k] at hA
    exact ⟨simple_back hS, by rw [area_back]; omega⟩
end Go.Proofs.Ytfhgfdphdmlpbaa.Geo
namespace Go.Proofs.Ytfhgfdphdmlpbaa.MaGeoF
theorem here : True := trivial
end Go.Proofs.Ytfhgfdphdmlpbaa.MaGeoF
