/- The plain law: what FnExactPointText computes is true at every input. -/
import Derived.Test.YtdegladckdnhiaaDoorRFnExactPointTextx
import Derived.Test.YtdegladckdnhiaaDoorMaOpen
import Derived.Lib.ItoaLen
namespace Go.Proofs.YtdegladckdnhiaaDoor.Pure
open Go.RowKit Go.Proofs.YtdegladckdnhiaaDoor.PFnExactPointText Go.Proofs.YtdegladckdnhiaaDoorW.PrintWords Go.Proofs.YtdegladckdnhiaaDoorW.PrintLast Go.Proofs.YtdegladckdnhiaaDoorW.PrintMore Go.Proofs.YtdegladckdnhiaaDoor.MaOpen
set_option linter.unusedVariables false
set_option linter.unusedSimpArgs false

theorem w64d {x : Int} (h1 : -9223372036854775808 ≤ x) (h2 : x ≤ 9223372036854775807) : wrap64 x = x := by
  unfold wrap64; omega
theorem strOfNums_eq (l : List Int) : strOfNums l = ⟨(l.map fun n => UInt8.ofNat n.toNat).toArray⟩ := rfl
/-- The digits of a number, the last ahead; none for 0. -/
def rdig (u : Nat) : List Int := if h : u = 0 then [] else ((48 + u % 10 : Nat) : Int) :: rdig (u / 10)
termination_by u
decreasing_by omega
theorem rdig_zero : rdig 0 = [] := by rw [rdig, dif_pos rfl]
theorem rdig_pos {u : Nat} (h : u ≠ 0) : rdig u = ((48 + u % 10 : Nat) : Int) :: rdig (u / 10) := by rw [rdig, dif_neg h]
theorem rdig_length : ∀ (n u : Nat), u < 10 ^ n → (rdig u).length ≤ n
  | 0, u, h => by have : u = 0 := by simpa using h
                  subst this; simp [rdig_zero]
  | n + 1, u, h => by
    by_cases hu : u = 0
    · subst hu; simp [rdig_zero]
    · rw [rdig_pos hu, List.length_cons]
      have := rdig_length n (u / 10) (by rw [Nat.pow_succ] at h; omega)
      omega
theorem decDigits_rdig (u : Nat) (h : u ≠ 0) : Lib.decDigits u = (rdig u).reverse.map fun n => UInt8.ofNat n.toNat := by
  induction u using Nat.strongRecOn with
  | _ u ih =>
    rw [rdig_pos h]
    by_cases h10 : u < 10
    · rw [Lib.decDigits, dif_pos h10, show u / 10 = 0 by omega, rdig_zero, Nat.mod_eq_of_lt h10]
      simp only [List.reverse_cons, List.reverse_nil, List.nil_append, List.map_cons, List.map_nil, Int.toNat_natCast]
    · rw [Lib.decDigits, dif_neg h10, ih (u / 10) (by omega) (by omega)]
      simp only [List.reverse_cons, List.map_append, List.map_cons, List.map_nil, Int.toNat_natCast]
theorem dec_l1 (x3 : List Int) (hx : x3.length < 1000) : ∀ (i : Nat), i ≤ x3.length → ∀ (x6 : List Int), x6.length + i < 1000 → ∀ k, i + 1 ≤ k → spec_l01Dec.l1 k x3 x6 ((i : Int) - 1) = some (strOfNums (x6 ++ (x3.take i).reverse))
  | 0, _, x6, _, k, hk => by
    obtain ⟨k, rfl⟩ : ∃ j, k = j + 1 := ⟨k - 1, by omega⟩
    rw [spec_l01Dec.l1, if_neg (by omega)]
    simp
  | i + 1, hi, x6, h6, k, hk => by
    obtain ⟨k, rfl⟩ : ∃ j, k = j + 1 := ⟨k - 1, by omega⟩
    have ez : (((i + 1 : Nat) : Int) - 1) = (i : Int) := by omega
    rw [ez, spec_l01Dec.l1, if_pos (by omega), if_pos (by omega), if_pos (by omega), if_pos (by omega), w64d (by omega) (by omega),
      dec_l1 x3 hx i (by omega) _ (by simp; omega) k (by omega)]
    have e : x3.take (i + 1) = x3.take i ++ [x3[i]'(by omega)] := by rw [List.take_append_getElem]
    have er : (x3.take (i + 1)).reverse = x3[i]'(by omega) :: (x3.take i).reverse := by rw [e, List.reverse_append]; rfl
    have ed : rd x3 (i : Int) = x3[i]'(by omega) := by simp [rd, List.getD, List.getElem?_eq_getElem (show i < x3.length by omega)]
    rw [er, ed, List.append_assoc]
    rfl
theorem dec_j1 (x3 : List Int) (hx : x3.length < 500) (k : Nat) (hk : x3.length + 2 ≤ k) : spec_l01Dec.j1 k x3 = some (strOfNums x3.reverse) := by
  obtain ⟨k, rfl⟩ : ∃ j, k = j + 1 := ⟨k - 1, by omega⟩
  rw [spec_l01Dec.j1, w64d (by omega) (by omega), dec_l1 x3 (by omega) x3.length (by omega) [] (by simp; omega) k (by omega)]
  simp
theorem dec_l0 (x0 : Int) : ∀ (n u : Nat), u < 10 ^ n → u ≤ 9223372036854775808 → ∀ (m : Int), m.natAbs = u → (m = 9223372036854775808 → False) → ∀ (x3 : List Int), x3.length + n < 400 → ∀ k, n + x3.length + n + 10 ≤ k →
    spec_l01Dec.l0 k x0 x3 m = some (strOfNums ((if x0 < 0 then [45] else []) ++ (x3 ++ rdig u).reverse))
  | n, u, hu, hr, m, hm, hne, x3, hl, k, hk => by
    obtain ⟨k, rfl⟩ : ∃ j, k = j + 1 := ⟨k - 1, by omega⟩
    rw [spec_l01Dec.l0]
    by_cases h0 : m = 0
    · subst h0
      obtain rfl : u = 0 := by simpa using hm.symm
      rw [if_pos rfl, rdig_zero, List.append_nil]
      by_cases hx : x0 < 0
      · rw [if_pos hx, if_pos hx, if_pos (by omega), dec_j1 _ (by simp; omega) k (by simp; omega)]
        simp
      · rw [if_neg hx, if_neg hx, dec_j1 _ (by omega) k (by omega)]
        simp
    · rw [if_neg h0]
      have hu0 : u ≠ 0 := by omega
      obtain ⟨n, rfl⟩ : ∃ j, n = j + 1 := by
        cases n with
        | zero => simp at hu; omega
        | succ j => exact ⟨j, rfl⟩
      have hu' : u / 10 < 10 ^ n := by rw [Nat.pow_succ] at hu; omega
      rw [rdig_pos hu0]
      rcases Int.le_total 0 m with hp | hp
      · have em : Int.tmod m 10 = ((u % 10 : Nat) : Int) := by rw [Int.tmod_eq_emod_of_nonneg hp]; omega
        have ed : Int.tdiv m 10 = ((u / 10 : Nat) : Int) := by rw [Int.tdiv_eq_ediv_of_nonneg hp]; omega
        rw [em, ed, if_neg (by omega), if_pos (by omega), w64d (by omega) (by omega), w64d (by omega) (by omega)]
        rw [dec_l0 x0 n (u / 10) hu' (by omega) _ (by omega) (by omega) _ (by simp; omega) k (by simp; omega)]
        have e : ((48 : Int) + ((u % 10 : Nat) : Int)) % 256 = ((48 + u % 10 : Nat) : Int) := by omega
        rw [e]
        simp
      · have hm' : m = -(u : Int) := by omega
        have em : Int.tmod m 10 = -((u % 10 : Nat) : Int) := by rw [hm', Int.neg_tmod, Int.tmod_eq_emod_of_nonneg (by omega)]; omega
        have ed : Int.tdiv m 10 = -((u / 10 : Nat) : Int) := by rw [hm', Int.neg_tdiv, Int.tdiv_eq_ediv_of_nonneg (by omega)]; omega
        rw [em, ed]
        have fin : spec_l01Dec.l0 k x0 (x3 ++ [((48 + u % 10 : Nat) : Int)]) (-((u / 10 : Nat) : Int)) = some (strOfNums ((if x0 < 0 then [45] else []) ++ (x3 ++ ((48 + u % 10 : Nat) : Int) :: rdig (u / 10)).reverse)) := by
          rw [dec_l0 x0 n (u / 10) hu' (by omega) _ (by omega) (by omega) _ (by simp; omega) k (by simp; omega)]
          simp
        by_cases hd : u % 10 = 0
        · rw [hd] at fin ⊢
          rw [if_neg (by simp), if_pos (by omega), w64d (x := -((u / 10 : Nat) : Int)) (by omega) (by omega)]
          have e : wrap64 (48 + -((0 : Nat) : Int)) % 256 = ((48 + 0 : Nat) : Int) := by rw [w64d (by decide) (by decide)]; decide
          rw [e]
          exact fin
        · rw [if_pos (by omega), if_pos (by omega), w64d (x := -((u / 10 : Nat) : Int)) (by omega) (by omega), Int.neg_neg, w64d (x := ((u % 10 : Nat) : Int)) (by omega) (by omega), w64d (by omega) (by omega)]
          have e : ((48 : Int) + ((u % 10 : Nat) : Int)) % 256 = ((48 + u % 10 : Nat) : Int) := by omega
          rw [e]
          exact fin
  termination_by n => n
/-- THE PLAIN LAW: the reference's digits are the library's numeral. -/
theorem spec_dec (a0 : Int) (h0 : -9223372036854775808 ≤ a0) (h1 : a0 ≤ 9223372036854775807) : ∀ k, 100 ≤ k → spec_l01Dec.f k a0 = some ⟨(Lib.itoa a0).toArray⟩ := by
  intro k hk
  unfold spec_l01Dec.f
  by_cases hz : a0 = 0
  · subst hz
    rw [if_pos rfl]
    have e : Lib.itoa 0 = [48] := by
      unfold Lib.itoa
      rw [if_neg (by omega), show (0 : Int).toNat = 0 from rfl, Lib.decDigits, dif_pos (by omega)]
      rfl
    rw [e]
  · have e20 : a0.natAbs < 10 ^ 20 := by
      have e : (10 : Nat) ^ 20 = 100000000000000000000 := by decide
      omega
    rw [if_neg hz, dec_l0 a0 20 a0.natAbs e20 (by omega) a0 rfl (by omega) [] (by simp) k (by simp; omega)]
    congr 1
    rw [strOfNums_eq]
    congr 2
    unfold Lib.itoa
    by_cases hn : a0 < 0
    · rw [if_pos hn, if_pos hn, decDigits_rdig _ (by omega)]
      simp
    · rw [if_neg hn, if_neg hn, show a0.toNat = a0.natAbs by omega, decDigits_rdig _ (by omega)]
      simp

theorem w64 {x : Int} (h1 : -9223372036854775808 ≤ x) (h2 : x ≤ 9223372036854775807) : wrap64 x = x := by
  unfold wrap64
  omega
theorem wf64 {n : Int} (h : (Lit.int .i64 n).wf = true) : -9223372036854775808 ≤ n ∧ n ≤ 9223372036854775807 := by
  simp [Lit.wf, IntKind.min, IntKind.max, IntKind.bits, IntKind.signed] at h
  omega
theorem toList_nil_iff (s : ByteArray) : s.toList = ([] : List UInt8) ↔ s.size = 0 := by
  rw [ByteArray.toList_eq, List.eq_nil_iff_length_eq_zero, data_length]

theorem bt_nat (s : ByteArray) (i : Nat) (h : i < s.data.toList.length) : bt s (i : Int) = ((s.data.toList[i]).toNat : Int) := by
  have h' : i < s.size := by rw [data_length] at h; exact h
  unfold bt
  rw [Int.toNat_natCast, dif_pos h']
  rfl
theorem size_list (s : ByteArray) : s.size = s.data.toList.length := (data_length s).symm
def toB (l : List UInt8) : ByteArray := ⟨l.toArray⟩
theorem data_toB (l : List UInt8) : (toB l).data.toList = l := rfl
theorem toB_data (s : ByteArray) : toB s.data.toList = s := rfl
theorem toB_inj {a b : List UInt8} (h : toB a = toB b) : a = b := by rw [← data_toB a, h, data_toB]
theorem map_toB : ∀ l : List ByteArray, (l.map (·.data.toList)).map toB = l
  | [] => rfl
  | s :: l => by rw [List.map_cons, List.map_cons, map_toB l]; rfl
theorem toList_toB (l : List UInt8) : (toB l).toList = l := by rw [ByteArray.toList_eq]; rfl
theorem toB_append (a b : List UInt8) : toB a ++ toB b = toB (a ++ b) := by
  apply ByteArray.ext
  rw [ByteArray.data_append]
  unfold toB
  simp
theorem toB_size (a : List UInt8) : (toB a).size = a.length := by rw [size_list, data_toB]

theorem impl_dec (v : Int) (h0 : -9223372036854775808 ≤ v) (h1 : v ≤ 9223372036854775807) : impl_Decimal.f v = some (toB (Lib.itoa v)) := by
  unfold impl_Decimal.f strconv_FormatInt_75.f
  rw [if_pos rfl, if_pos h0, if_pos h1]
  rfl

theorem spec_dec' (v : Int) (h0 : -9223372036854775808 ≤ v) (h1 : v ≤ 9223372036854775807) (k : Nat) (hk : 100 ≤ k) : spec_l01Dec.f k v = some (toB (Lib.itoa v)) := spec_dec v h0 h1 k hk

theorem impl_within_eq (n lo hi : Int) : impl_within.f n lo hi = some (decide (lo ≤ n ∧ n ≤ hi)) := by
  unfold impl_within.f
  by_cases h : n ≥ lo
  · rw [if_pos h]
    have : lo ≤ n := h
    simp [this]
  · rw [if_neg h]
    have : ¬ lo ≤ n := h
    simp [this]

theorem spec_l00In_eq (n lo hi : Int) : spec_l00In.f n lo hi = some (decide (lo ≤ n ∧ n ≤ hi)) := by
  unfold spec_l00In.f
  by_cases h : n ≥ lo
  · rw [if_pos h]
    have : lo ≤ n := h
    simp [this]
  · rw [if_neg h]
    have : ¬ lo ≤ n := h
    simp [this]

/-- A valid point. -/
def okP (x y : Int) : Bool := decide (0 ≤ x ∧ x ≤ 20000) && decide (0 ≤ y ∧ y ≤ 20000)
theorem okP_iff (x y : Int) : okP x y = true ↔ (0 ≤ x ∧ x ≤ 20000) ∧ (0 ≤ y ∧ y ≤ 20000) := by
  unfold okP
  rw [Bool.and_eq_true, decide_eq_true_eq, decide_eq_true_eq]
theorem ok_bind (x y : Int) (f : Bool → Option Bool) (hf : ∀ b, f b = some b) : (if decide (0 ≤ x ∧ x ≤ 20000) = true then (some (decide (0 ≤ y ∧ y ≤ 20000))).bind f else some false) = some (okP x y) := by
  unfold okP
  by_cases h : 0 ≤ x ∧ x ≤ 20000
  · rw [decide_eq_true h, if_pos rfl]
    simp [hf]
  · rw [decide_eq_false h, if_neg (by decide)]
    simp

theorem spec_l02Ok_eq (x y : Int) : spec_l02Ok.f x y = some (okP x y) := by
  unfold spec_l02Ok.f
  simp only [spec_l00In_eq]
  rw [Option.bind_some]
  exact ok_bind x y _ (fun _ => rfl)

theorem impl_ValidPoint_eq (x y : Int) : impl_ValidPoint.f x y = some (okP x y) := by
  unfold impl_ValidPoint.f
  simp only [impl_within_eq]
  rw [Option.bind_some]
  exact ok_bind x y _ (fun _ => rfl)

def ptB (x y : Int) : ByteArray := toB (Lib.itoa x ++ [44] ++ Lib.itoa y)
theorem ptB_size (x y : Int) (h : okP x y = true) : (ptB x y).size ≤ 43 := by
  obtain ⟨⟨a, b⟩, c, d⟩ := (okP_iff x y).1 h
  have h1 := Lib.itoa_length_le x (by omega) (by omega)
  have h2 := Lib.itoa_length_le y (by omega) (by omega)
  unfold ptB
  rw [toB_size, List.length_append, List.length_append, List.length_singleton]
  omega
theorem spec_text (x y : Int) (h : okP x y = true) (k : Nat) (hk : 100 ≤ k) : spec_l02Text.f k x y = some (ptB x y) := by
  obtain ⟨⟨a, b⟩, c, d⟩ := (okP_iff x y).1 h
  have h1 := Lib.itoa_length_le x (by omega) (by omega)
  have h2 := Lib.itoa_length_le y (by omega) (by omega)
  have e44 : (⟨#[44]⟩ : ByteArray) = toB [44] := rfl
  unfold spec_l02Text.f ptB
  rw [spec_dec' x (by omega) (by omega) k hk, spec_dec' y (by omega) (by omega) k hk, Option.bind_some, Option.bind_some, e44, toB_append, toB_append, toB_size, toB_size, toB_size, if_pos (by omega), if_pos (by rw [List.length_append, List.length_singleton]; omega)]
theorem impl_text (x y : Int) : impl_PointText.f x y = some (if okP x y = true then ptB x y else toB []) := by
  unfold impl_PointText.f
  rw [impl_ValidPoint_eq, Option.bind_some]
  by_cases h : okP x y = true
  · obtain ⟨⟨a, b⟩, c, d⟩ := (okP_iff x y).1 h
    have h1 := Lib.itoa_length_le x (by omega) (by omega)
    have h2 := Lib.itoa_length_le y (by omega) (by omega)
    have e44 : (⟨#[44]⟩ : ByteArray) = toB [44] := rfl
    unfold ptB
    rw [if_pos h, if_pos h, impl_dec x (by omega) (by omega), impl_dec y (by omega) (by omega), Option.bind_some, Option.bind_some, e44, toB_append, toB_append, toB_size, toB_size, toB_size, if_pos (by omega), if_pos (by rw [List.length_append, List.length_singleton]; omega)]
  · rw [if_neg h, if_neg h]
    rfl

theorem FnExactPointText (x y : Int) (_ : (Lit.int .i64 x).wf = true) (_ : (Lit.int .i64 y).wf = true) : ∃ k, laws_FnExactPointText.f k x y = some true := by
  refine ⟨100, ?_⟩
  unfold laws_FnExactPointText.f laws_toPoint.f spec_PointText.f
  simp only [Option.bind_some]
  rw [impl_text, spec_l02Ok_eq]
  simp only [Option.bind_some]
  by_cases h : okP x y = true
  · rw [if_pos h, spec_text x y h 100 (Nat.le_refl _)]
    simp only [Option.bind_some, h, if_true]
  · rw [if_neg h, if_neg h]
    simp only [Option.bind_some]
    exact if_pos rfl

end Go.Proofs.YtdegladckdnhiaaDoor.Pure
