/- The plain law: what FnExactDrawingText computes is true at every input. -/
import Derived.Test.YtdegladckdnhiaaDoorLFnExactDrawingTextc
import Derived.Lib.ItoaLen
namespace Go.Proofs.YtdegladckdnhiaaDoor.Pure
open Go.RowKit Go.Proofs.YtdegladckdnhiaaDoor.PFnExactDrawingText Go.Proofs.YtdegladckdnhiaaDoorW.PrintWords Go.Proofs.YtdegladckdnhiaaDoorW.PrintLast Go.Proofs.YtdegladckdnhiaaDoorW.PrintMore
set_option linter.unusedVariables false
set_option linter.unusedSimpArgs false

theorem facesFrom_all (pts : List S40) (fs : List S85) : ∀ (d i : Nat), facesFrom pts fs d i = true → ∀ j, i ≤ j → j < i + d → faceGood pts fs j = true
  | 0, i, _, j, h1, h2 => absurd h2 (by omega)
  | d + 1, i, h, j, h1, h2 => by
    rw [facesFrom_succ, Bool.and_eq_true] at h
    by_cases e : j = i
    · rw [e]
      exact h.1
    · exact facesFrom_all pts fs d (i + 1) h.2 j (by omega) (by omega)
theorem drawB_face {w h : Int} {pts : List S40} {fs : List S85} (hd : drawB w h pts fs = true) (i : Nat) (hi : i < fs.length) : ringOk pts (fs.getD i z85).f1 = true ∧ validB (ringP pts (fs.getD i z85).f1) = true := by
  unfold drawB at hd
  simp only [Bool.and_eq_true] at hd
  have := facesFrom_all pts fs fs.length 0 hd.2.2 i (by omega) (by omega)
  rw [faceGood_eq] at this
  simp only [Bool.and_eq_true] at this
  exact this.2.2
theorem drawB_valid {w h : Int} {pts : List S40} {fs : List S85} (hd : drawB w h pts fs = true) (hs : ShortP fs) (i : Nat) (hi : i < fs.length) : Valid (ringP pts (fs.getD i z85).f1) :=
  ((validB_eq (ringP pts (fs.getD i z85).f1) (by rw [ringP_length]; exact (hs i hi).2) 1000 (Nat.le_refl _)).2.2).1 (drawB_face hd i hi).2

theorem w64d {x : Int} (h1 : -9223372036854775808 ≤ x) (h2 : x ≤ 9223372036854775807) : wrap64 x = x := by
  unfold wrap64; omega
theorem strOfNums_eq (l : List Int) : strOfNums l = ⟨(l.map fun n => UInt8.ofNat n.toNat).toArray⟩ := rfl
/-- The digits of a number, the last ahead; none for 0. -/
def rdig (u : Nat) : List Int := if h : u = 0 then [] else ((48 + u % 10 : Nat) : Int) :: rdig (u / 10)
termination_by u
decreasing_by omega
theorem rdig_zero : rdig 0 = [] := by rw [rdig, dif_pos rfl]
theorem rdig_pos {u : Nat} (h : u ≠ 0) : rdig u = ((48 + u % 10 : Nat) : Int) :: rdig (u / 10) := by rw [rdig, dif_neg h]
theorem rdig_length : ∀ (n u : Nat), u < 10 ^ n → (rdig u).length ≤ n
  | 0, u, h => by have : u = 0 := by simpa using h
                  subst this; simp [rdig_zero]
  | n + 1, u, h => by
    by_cases hu : u = 0
    · subst hu; simp [rdig_zero]
    · rw [rdig_pos hu, List.length_cons]
      have := rdig_length n (u / 10) (by rw [Nat.pow_succ] at h; omega)
      omega
theorem decDigits_rdig (u : Nat) (h : u ≠ 0) : Lib.decDigits u = (rdig u).reverse.map fun n => UInt8.ofNat n.toNat := by
  induction u using Nat.strongRecOn with
  | _ u ih =>
    rw [rdig_pos h]
    by_cases h10 : u < 10
    · rw [Lib.decDigits, dif_pos h10, show u / 10 = 0 by omega, rdig_zero, Nat.mod_eq_of_lt h10]
      simp only [List.reverse_cons, List.reverse_nil, List.nil_append, List.map_cons, List.map_nil, Int.toNat_natCast]
    · rw [Lib.decDigits, dif_neg h10, ih (u / 10) (by omega) (by omega)]
      simp only [List.reverse_cons, List.map_append, List.map_cons, List.map_nil, Int.toNat_natCast]
theorem dec_l1 (x3 : List Int) (hx : x3.length < 1000) : ∀ (i : Nat), i ≤ x3.length → ∀ (x6 : List Int), x6.length + i < 1000 → ∀ k, i + 1 ≤ k → spec_l01Dec.l1 k x3 x6 ((i : Int) - 1) = some (strOfNums (x6 ++ (x3.take i).reverse))
  | 0, _, x6, _, k, hk => by
    obtain ⟨k, rfl⟩ : ∃ j, k = j + 1 := ⟨k - 1, by omega⟩
    rw [spec_l01Dec.l1, if_neg (by omega)]
    simp
  | i + 1, hi, x6, h6, k, hk => by
    obtain ⟨k, rfl⟩ : ∃ j, k = j + 1 := ⟨k - 1, by omega⟩
    have ez : (((i + 1 : Nat) : Int) - 1) = (i : Int) := by omega
    rw [ez, spec_l01Dec.l1, if_pos (by omega), if_pos (by omega), if_pos (by omega), if_pos (by omega), w64d (by omega) (by omega),
      dec_l1 x3 hx i (by omega) _ (by simp; omega) k (by omega)]
    have e : x3.take (i + 1) = x3.take i ++ [x3[i]'(by omega)] := by rw [List.take_append_getElem]
    have er : (x3.take (i + 1)).reverse = x3[i]'(by omega) :: (x3.take i).reverse := by rw [e, List.reverse_append]; rfl
    have ed : rd x3 (i : Int) = x3[i]'(by omega) := by simp [rd, List.getD, List.getElem?_eq_getElem (show i < x3.length by omega)]
    rw [er, ed, List.append_assoc]
    rfl
theorem dec_j1 (x3 : List Int) (hx : x3.length < 500) (k : Nat) (hk : x3.length + 2 ≤ k) : spec_l01Dec.j1 k x3 = some (strOfNums x3.reverse) := by
  obtain ⟨k, rfl⟩ : ∃ j, k = j + 1 := ⟨k - 1, by omega⟩
  rw [spec_l01Dec.j1, w64d (by omega) (by omega), dec_l1 x3 (by omega) x3.length (by omega) [] (by simp; omega) k (by omega)]
  simp
theorem dec_l0 (x0 : Int) : ∀ (n u : Nat), u < 10 ^ n → u ≤ 9223372036854775808 → ∀ (m : Int), m.natAbs = u → (m = 9223372036854775808 → False) → ∀ (x3 : List Int), x3.length + n < 400 → ∀ k, n + x3.length + n + 10 ≤ k →
    spec_l01Dec.l0 k x0 x3 m = some (strOfNums ((if x0 < 0 then [45] else []) ++ (x3 ++ rdig u).reverse))
  | n, u, hu, hr, m, hm, hne, x3, hl, k, hk => by
    obtain ⟨k, rfl⟩ : ∃ j, k = j + 1 := ⟨k - 1, by omega⟩
    rw [spec_l01Dec.l0]
    by_cases h0 : m = 0
    · subst h0
      obtain rfl : u = 0 := by simpa using hm.symm
      rw [if_pos rfl, rdig_zero, List.append_nil]
      by_cases hx : x0 < 0
      · rw [if_pos hx, if_pos hx, if_pos (by omega), dec_j1 _ (by simp; omega) k (by simp; omega)]
        simp
      · rw [if_neg hx, if_neg hx, dec_j1 _ (by omega) k (by omega)]
        simp
    · rw [if_neg h0]
      have hu0 : u ≠ 0 := by omega
      obtain ⟨n, rfl⟩ : ∃ j, n = j + 1 := by
        cases n with
        | zero => simp at hu; omega
        | succ j => exact ⟨j, rfl⟩
      have hu' : u / 10 < 10 ^ n := by rw [Nat.pow_succ] at hu; omega
      rw [rdig_pos hu0]
      rcases Int.le_total 0 m with hp | hp
      · have em : Int.tmod m 10 = ((u % 10 : Nat) : Int) := by rw [Int.tmod_eq_emod_of_nonneg hp]; omega
        have ed : Int.tdiv m 10 = ((u / 10 : Nat) : Int) := by rw [Int.tdiv_eq_ediv_of_nonneg hp]; omega
        rw [em, ed, if_neg (by omega), if_pos (by omega), w64d (by omega) (by omega), w64d (by omega) (by omega)]
        rw [dec_l0 x0 n (u / 10) hu' (by omega) _ (by omega) (by omega) _ (by simp; omega) k (by simp; omega)]
        have e : ((48 : Int) + ((u % 10 : Nat) : Int)) % 256 = ((48 + u % 10 : Nat) : Int) := by omega
        rw [e]
        simp
      · have hm' : m = -(u : Int) := by omega
        have em : Int.tmod m 10 = -((u % 10 : Nat) : Int) := by rw [hm', Int.neg_tmod, Int.tmod_eq_emod_of_nonneg (by omega)]; omega
        have ed : Int.tdiv m 10 = -((u / 10 : Nat) : Int) := by rw [hm', Int.neg_tdiv, Int.tdiv_eq_ediv_of_nonneg (by omega)]; omega
        rw [em, ed]
        have fin : spec_l01Dec.l0 k x0 (x3 ++ [((48 + u % 10 : Nat) : Int)]) (-((u / 10 : Nat) : Int)) = some (strOfNums ((if x0 < 0 then [45] else []) ++ (x3 ++ ((48 + u % 10 : Nat) : Int) :: rdig (u / 10)).reverse)) := by
          rw [dec_l0 x0 n (u / 10) hu' (by omega) _ (by omega) (by omega) _ (by simp; omega) k (by simp; omega)]
          simp
        by_cases hd : u % 10 = 0
        · rw [hd] at fin ⊢
          rw [if_neg (by simp), if_pos (by omega), w64d (x := -((u / 10 : Nat) : Int)) (by omega) (by omega)]
          have e : wrap64 (48 + -((0 : Nat) : Int)) % 256 = ((48 + 0 : Nat) : Int) := by rw [w64d (by decide) (by decide)]; decide
          rw [e]
          exact fin
        · rw [if_pos (by omega), if_pos (by omega), w64d (x := -((u / 10 : Nat) : Int)) (by omega) (by omega), Int.neg_neg, w64d (x := ((u % 10 : Nat) : Int)) (by omega) (by omega), w64d (by omega) (by omega)]
          have e : ((48 : Int) + ((u % 10 : Nat) : Int)) % 256 = ((48 + u % 10 : Nat) : Int) := by omega
          rw [e]
          exact fin
  termination_by n => n
/-- THE PLAIN LAW: the reference's digits are the library's numeral. -/
theorem spec_dec (a0 : Int) (h0 : -9223372036854775808 ≤ a0) (h1 : a0 ≤ 9223372036854775807) : ∀ k, 100 ≤ k → spec_l01Dec.f k a0 = some ⟨(Lib.itoa a0).toArray⟩ := by
  intro k hk
  unfold spec_l01Dec.f
  by_cases hz : a0 = 0
  · subst hz
    rw [if_pos rfl]
    have e : Lib.itoa 0 = [48] := by
      unfold Lib.itoa
      rw [if_neg (by omega), show (0 : Int).toNat = 0 from rfl, Lib.decDigits, dif_pos (by omega)]
      rfl
    rw [e]
  · have e20 : a0.natAbs < 10 ^ 20 := by
      have e : (10 : Nat) ^ 20 = 100000000000000000000 := by decide
      omega
    rw [if_neg hz, dec_l0 a0 20 a0.natAbs e20 (by omega) a0 rfl (by omega) [] (by simp) k (by simp; omega)]
    congr 1
    rw [strOfNums_eq]
    congr 2
    unfold Lib.itoa
    by_cases hn : a0 < 0
    · rw [if_pos hn, if_pos hn, decDigits_rdig _ (by omega)]
      simp
    · rw [if_neg hn, if_neg hn, show a0.toNat = a0.natAbs by omega, decDigits_rdig _ (by omega)]
      simp

theorem bt_nat (s : ByteArray) (i : Nat) (h : i < s.data.toList.length) : bt s (i : Int) = ((s.data.toList[i]).toNat : Int) := by
  have h' : i < s.size := by rw [data_length] at h; exact h
  unfold bt
  rw [Int.toNat_natCast, dif_pos h']
  rfl
theorem size_list (s : ByteArray) : s.size = s.data.toList.length := (data_length s).symm
def toB (l : List UInt8) : ByteArray := ⟨l.toArray⟩
theorem data_toB (l : List UInt8) : (toB l).data.toList = l := rfl
theorem toB_data (s : ByteArray) : toB s.data.toList = s := rfl
theorem toB_inj {a b : List UInt8} (h : toB a = toB b) : a = b := by rw [← data_toB a, h, data_toB]
theorem map_toB : ∀ l : List ByteArray, (l.map (·.data.toList)).map toB = l
  | [] => rfl
  | s :: l => by rw [List.map_cons, List.map_cons, map_toB l]; rfl
theorem toList_toB (l : List UInt8) : (toB l).toList = l := by rw [ByteArray.toList_eq]; rfl
theorem toB_append (a b : List UInt8) : toB a ++ toB b = toB (a ++ b) := by
  apply ByteArray.ext
  rw [ByteArray.data_append]
  unfold toB
  simp
theorem toB_size (a : List UInt8) : (toB a).size = a.length := by rw [size_list, data_toB]

theorem impl_dec (v : Int) (h0 : -9223372036854775808 ≤ v) (h1 : v ≤ 9223372036854775807) : impl_Decimal.f v = some (toB (Lib.itoa v)) := by
  unfold impl_Decimal.f strconv_FormatInt_75.f
  rw [if_pos rfl, if_pos h0, if_pos h1]
  rfl

theorem spec_dec' (v : Int) (h0 : -9223372036854775808 ≤ v) (h1 : v ≤ 9223372036854775807) (k : Nat) (hk : 100 ≤ k) : spec_l01Dec.f k v = some (toB (Lib.itoa v)) := spec_dec v h0 h1 k hk

theorem join_take_succ (sep : List UInt8) (xs : List (List UInt8)) (i : Nat) (hi : i < xs.length) : Lib.join (xs.take (i + 1)) sep = if i = 0 then xs[i] else Lib.join (xs.take i) sep ++ sep ++ xs[i] := by
  cases xs with
  | nil => simp at hi
  | cons x r =>
    cases i with
    | zero => simp [Lib.join_one]
    | succ i =>
      have hr : i < r.length := by simpa using hi
      rw [if_neg (by omega), List.take_succ_cons, List.take_succ_cons, Lib.join_cons, Lib.join_cons, List.getElem_cons_succ, Lib.joinTail_take_succ sep r i r[i] (List.getElem?_eq_getElem hr)]
      simp [List.append_assoc]
theorem join_take_length (sep : List UInt8) (hs : sep.length = 1) (M : Nat) (xs : List (List UInt8)) (hx : ∀ x ∈ xs, x.length ≤ M) : ∀ i, i ≤ xs.length → (Lib.join (xs.take i) sep).length ≤ (M + 1) * i
  | 0, _ => by simp [Lib.join_nil]
  | i + 1, hi => by
    have h1 := join_take_length sep hs M xs hx i (by omega)
    have h2 := hx xs[i] (List.getElem_mem (by omega))
    rw [join_take_succ sep xs i (by omega), Nat.mul_add]
    split
    · omega
    · rw [List.length_append, List.length_append]
      omega
theorem strings_join (c : UInt8) (M : Nat) (xs : List (List UInt8)) (hx : ∀ x ∈ xs, x.length ≤ M) (hM : (M + 1) * xs.length ≤ 1000000000) (hl : xs.length ≤ 1000000000) : strings_Join.f (xs.map toB) (⟨#[c]⟩ : ByteArray) = some (toB (Lib.join xs [c])) := by
  have e : (xs.map toB).map (·.data.toList) = xs := by
    rw [List.map_map]
    exact List.map_id' _
  have e2 : (⟨#[c]⟩ : ByteArray).data.toList = [c] := rfl
  have h := join_take_length [c] rfl M xs hx xs.length (Nat.le_refl _)
  rw [List.take_length] at h
  unfold strings_Join.f
  rw [e, e2, if_pos (by rw [List.length_map]; omega), if_pos (by omega)]
  rfl

def inL (n : Int) : Bool := decide (n ≥ -1000000000000) && decide (n ≤ 1000000000000)
theorem spec_in (n : Int) : spec_l00In.f n (-1000000000000) 1000000000000 = some (inL n) := by
  unfold spec_l00In.f inL
  by_cases h : n ≥ -1000000000000
  · rw [if_pos h, decide_eq_true h]; rfl
  · rw [if_neg h, decide_eq_false h]; rfl
theorem impl_in (n : Int) : impl_within.f n (-1000000000000) 1000000000000 = some (inL n) := by
  unfold impl_within.f inL
  by_cases h : n ≥ -1000000000000
  · rw [if_pos h, decide_eq_true h]; rfl
  · rw [if_neg h, decide_eq_false h]; rfl

theorem rdI (x : List Int) (j : Nat) (h : j < x.length) : rd x (j : Int) = x[j] := by
  unfold rd
  rw [Int.toNat_natCast, List.getD_eq_getElem?_getD, List.getElem?_eq_getElem h]
  rfl
theorem l01List_loop (l : List Int) (hl : l.length ≤ 64) (hr : ∀ x ∈ l, -9223372036854775808 ≤ x ∧ x ≤ 9223372036854775807) : ∀ (d i k : Nat), i + d = l.length → d + 100 < k →
    spec_l01List.l0 k l (toB (Lib.join ((l.map Lib.itoa).take i) [44])) i = some (toB (Lib.join (l.map Lib.itoa) [44]))
  | d, i, 0, _, h => absurd h (Nat.not_lt_zero _)
  | 0, i, k + 1, h, _ => by
    rw [spec_l01List.l0, if_neg (by omega), List.take_of_length_le (by rw [List.length_map]; omega)]
  | d + 1, i, k + 1, h, hk => by
    have hi : i < l.length := by omega
    have hm : ∀ x ∈ l.map Lib.itoa, x.length ≤ 21 := by
      intro x hx
      obtain ⟨y, hy, rfl⟩ := List.mem_map.1 hx
      exact Lib.itoa_length_le y (hr y hy).1 (hr y hy).2
    have hxi := hr l[i] (List.getElem_mem hi)
    have hj := join_take_length [44] rfl 21 (l.map Lib.itoa) hm i (by rw [List.length_map]; omega)
    have hi2 := Lib.itoa_length_le l[i] hxi.1 hxi.2
    have hn := join_take_succ [44] (l.map Lib.itoa) i (by rw [List.length_map]; exact hi)
    rw [List.getElem_map] at hn
    have next := l01List_loop l hl hr d (i + 1) k (by omega) (by omega)
    have e44 : (⟨#[44]⟩ : ByteArray) = toB [44] := rfl
    rw [spec_l01List.l0, if_pos (by omega), rdI l i hi, spec_dec' _ hxi.1 hxi.2 k (by omega), Option.bind_some, Option.bind_some, e44, toB_append, toB_append, toB_size, toB_size, toB_size, w64 (by omega) (by omega), show (i : Int) + 1 = ((i + 1 : Nat) : Int) by omega]
    by_cases h0 : i = 0
    · subst h0
      rw [if_pos rfl] at hn
      rw [hn] at next
      rw [if_neg (by omega), if_pos (by omega), toB_append, if_pos (by omega)]
      exact next
    · rw [if_neg h0] at hn
      rw [hn] at next
      rw [if_pos (by omega), if_pos (by omega), if_pos (by omega), if_pos (by rw [List.length_append, List.length_singleton]; omega)]
      exact next
theorem l01List_eq (l : List Int) (hl : l.length ≤ 64) (hr : ∀ x ∈ l, -9223372036854775808 ≤ x ∧ x ≤ 9223372036854775807) (k : Nat) (hk : 200 ≤ k) : spec_l01List.f k l = some (if l.length = 0 then toB [45] else toB (Lib.join (l.map Lib.itoa) [44])) := by
  unfold spec_l01List.f
  by_cases h : l.length = 0
  · rw [if_pos (by omega), if_pos h]
    rfl
  · rw [if_neg (by omega), if_neg h]
    have := l01List_loop l hl hr l.length 0 k (by omega) (by omega)
    exact this
theorem implList_loop (l : List Int) (hl : l.length ≤ 64) (hr : ∀ x ∈ l, -9223372036854775808 ≤ x ∧ x ≤ 9223372036854775807) : ∀ (d i k : Nat), i + d = l.length → d < k →
    impl_ListText.l1 k (((l.map Lib.itoa).map toB).take i) l (l.length : Int) i = some (toB (Lib.join (l.map Lib.itoa) [44]))
  | d, i, 0, _, h => absurd h (Nat.not_lt_zero _)
  | 0, i, k + 1, h, _ => by
    have hm : ∀ x ∈ l.map Lib.itoa, x.length ≤ 21 := by
      intro x hx
      obtain ⟨y, hy, rfl⟩ := List.mem_map.1 hx
      exact Lib.itoa_length_le y (hr y hy).1 (hr y hy).2
    rw [impl_ListText.l1, if_neg (by omega), List.take_of_length_le (by rw [List.length_map, List.length_map]; omega), strings_join 44 21 _ hm (by rw [List.length_map]; omega) (by rw [List.length_map]; omega)]
    rfl
  | d + 1, i, k + 1, h, hk => by
    have hi : i < l.length := by omega
    have hxi := hr l[i] (List.getElem_mem hi)
    have next := implList_loop l hl hr d (i + 1) k (by omega) (by omega)
    rw [List.take_add_one, List.getElem?_map, List.getElem?_map, List.getElem?_eq_getElem hi] at next
    rw [impl_ListText.l1, if_pos (by omega), if_pos (by omega), if_pos (by omega), rdI l i hi, impl_dec _ hxi.1 hxi.2, Option.bind_some, if_pos (by rw [List.length_take]; omega), w64 (by omega) (by omega), show (i : Int) + 1 = ((i + 1 : Nat) : Int) by omega]
    exact next
theorem implFits_loop (l : List Int) (hl : l.length ≤ 64) (hr : ∀ x ∈ l, -9223372036854775808 ≤ x ∧ x ≤ 9223372036854775807) : ∀ (d i k : Nat), i + d = l.length → d + 100 < k →
    impl_ListText.l0 k l l (l.length : Int) i = some (if (l.drop i).all inL = true then (if l.length = 0 then toB [45] else toB (Lib.join (l.map Lib.itoa) [44])) else toB [])
  | d, i, 0, _, h => absurd h (Nat.not_lt_zero _)
  | 0, i, k + 1, h, hk => by
    rw [impl_ListText.l0, if_neg (by omega), List.drop_eq_nil_of_le (by omega), if_pos List.all_nil]
    by_cases h0 : l.length = 0
    · rw [if_pos (by omega), if_pos h0]
      rfl
    · rw [if_neg (by omega), if_neg h0]
      have := implList_loop l hl hr l.length 0 k (by omega) (by omega)
      rw [List.take_zero] at this
      exact this
  | d + 1, i, k + 1, h, hk => by
    have hi : i < l.length := by omega
    rw [impl_ListText.l0, if_pos (by omega), if_pos (by omega), if_pos (by omega), rdI l i hi, impl_in, Option.bind_some, w64 (by omega) (by omega), show (i : Int) + 1 = ((i + 1 : Nat) : Int) by omega, implFits_loop l hl hr d (i + 1) k (by omega) (by omega), List.drop_eq_getElem_cons hi, List.all_cons]
    cases inL l[i]
    · rw [if_neg (by decide), Bool.false_and, if_neg (by decide)]
      rfl
    · rw [if_pos rfl, Bool.true_and]
/-- What a list is written as. -/
def listText (l : List Int) : ByteArray := if (l.all inL && decide (l.length ≤ 64)) = true then (if l.length = 0 then toB [45] else toB (Lib.join (l.map Lib.itoa) [44])) else toB []
theorem impl_listText (l : List Int) (hl : l.length ≤ 1048576) (hr : ∀ x ∈ l, -9223372036854775808 ≤ x ∧ x ≤ 9223372036854775807) (k : Nat) (hk : l.length + 300 ≤ k) : impl_ListText.f k l = some (listText l) := by
  unfold impl_ListText.f listText
  by_cases h64 : l.length ≤ 64
  · rw [if_neg (by omega), decide_eq_true h64, Bool.and_true]
    have := implFits_loop l h64 hr l.length 0 k (by omega) (by omega)
    rw [List.drop_zero] at this
    exact this
  · rw [if_pos (by omega), decide_eq_false h64, Bool.and_false, if_neg (by decide)]
    rfl

def ptB (x y : Int) : ByteArray := toB (Lib.itoa x ++ [44] ++ Lib.itoa y)
theorem ptB_size (x y : Int) (h : okP x y = true) : (ptB x y).size ≤ 43 := by
  obtain ⟨⟨a, b⟩, c, d⟩ := (okP_iff x y).1 h
  have h1 := Lib.itoa_length_le x (by omega) (by omega)
  have h2 := Lib.itoa_length_le y (by omega) (by omega)
  unfold ptB
  rw [toB_size, List.length_append, List.length_append, List.length_singleton]
  omega
theorem spec_text (x y : Int) (h : okP x y = true) (k : Nat) (hk : 100 ≤ k) : spec_l02Text.f k x y = some (ptB x y) := by
  obtain ⟨⟨a, b⟩, c, d⟩ := (okP_iff x y).1 h
  have h1 := Lib.itoa_length_le x (by omega) (by omega)
  have h2 := Lib.itoa_length_le y (by omega) (by omega)
  have e44 : (⟨#[44]⟩ : ByteArray) = toB [44] := rfl
  unfold spec_l02Text.f ptB
  rw [spec_dec' x (by omega) (by omega) k hk, spec_dec' y (by omega) (by omega) k hk, Option.bind_some, Option.bind_some, e44, toB_append, toB_append, toB_size, toB_size, toB_size, if_pos (by omega), if_pos (by rw [List.length_append, List.length_singleton]; omega)]
theorem impl_text (x y : Int) : impl_PointText.f x y = some (if okP x y = true then ptB x y else toB []) := by
  unfold impl_PointText.f
  rw [impl_ValidPoint_eq, Option.bind_some]
  by_cases h : okP x y = true
  · obtain ⟨⟨a, b⟩, c, d⟩ := (okP_iff x y).1 h
    have h1 := Lib.itoa_length_le x (by omega) (by omega)
    have h2 := Lib.itoa_length_le y (by omega) (by omega)
    have e44 : (⟨#[44]⟩ : ByteArray) = toB [44] := rfl
    unfold ptB
    rw [if_pos h, if_pos h, impl_dec x (by omega) (by omega), impl_dec y (by omega) (by omega), Option.bind_some, Option.bind_some, e44, toB_append, toB_append, toB_size, toB_size, toB_size, if_pos (by omega), if_pos (by rw [List.length_append, List.length_singleton]; omega)]
  · rw [if_neg h, if_neg h]
    rfl

def ptL (x y : Int) : List UInt8 := Lib.itoa x ++ [44] ++ Lib.itoa y
theorem ptB_eq (x y : Int) : ptB x y = toB (ptL x y) := rfl
theorem ptL_length (x y : Int) (h : okP x y = true) : (ptL x y).length ≤ 43 := by
  have := ptB_size x y h
  rwa [ptB_eq, toB_size] at this

theorem getP (p : List S40) (i : Nat) (h : i < p.length) : p.getD i z40 = p[i] := by
  rw [List.getD_eq_getElem?_getD, List.getElem?_eq_getElem h]
  rfl
def ptsL (p : List S40) : List (List UInt8) := p.map fun s => ptL s.f0 s.f1
theorem ptsL_length (p : List S40) : (ptsL p).length = p.length := List.length_map _
theorem ptsL_get (p : List S40) (i : Nat) (h : i < p.length) : (ptsL p)[i]'(by rw [ptsL_length]; exact h) = ptL p[i].f0 p[i].f1 := by
  unfold ptsL
  rw [List.getElem_map]
theorem ptsL_small (p : List S40) (hok : ∀ s ∈ p, okP s.f0 s.f1 = true) : ∀ x ∈ ptsL p, x.length ≤ 43 := by
  intro x hx
  obtain ⟨s, hs, rfl⟩ := List.mem_map.1 hx
  exact ptL_length _ _ (hok s hs)

theorem ptsFrom_all (w h : Int) (pts : List S40) : ∀ (d i : Nat), ptsFrom w h pts d i = true → ∀ j, i ≤ j → j < i + d → ptGood w h pts j = true
  | 0, i, _, j, h1, h2 => absurd h2 (by omega)
  | d + 1, i, hh, j, h1, h2 => by
    rw [ptsFrom_succ, Bool.and_eq_true] at hh
    by_cases e : j = i
    · rw [e]
      exact hh.1
    · exact ptsFrom_all w h pts d (i + 1) hh.2 j (by omega) (by omega)
theorem draw_facts {w h : Int} {pts : List S40} {fs : List S85} (hd : drawB w h pts fs = true) : ((10 ≤ w ∧ w ≤ 20000) ∧ (10 ≤ h ∧ h ≤ 20000)) ∧ (pts.length ≤ 48 ∧ fs.length ≤ 24) ∧ ∀ s ∈ pts, okP s.f0 s.f1 = true := by
  unfold drawB at hd
  simp only [Bool.and_eq_true, decide_eq_true_eq] at hd
  obtain ⟨⟨a, b⟩, c, _⟩ := hd
  refine ⟨a, b, fun s hs => ?_⟩
  obtain ⟨j, hj, rfl⟩ := List.getElem_of_mem hs
  have q := ptsFrom_all w h pts pts.length 0 c j (by omega) (by omega)
  rw [ptGood_eq] at q
  simp only [Bool.and_eq_true, decide_eq_true_eq] at q
  obtain ⟨⟨x, y⟩, _⟩ := q
  rw [getP pts j hj] at x y
  exact (okP_iff _ _).2 ⟨⟨x.1, by omega⟩, y.1, by omega⟩
theorem e32 : (⟨#[32]⟩ : ByteArray) = toB [32] := rfl
theorem e59 : (⟨#[59]⟩ : ByteArray) = toB [59] := rfl
theorem e120 : (⟨#[120]⟩ : ByteArray) = toB [120] := rfl
/-- What stands ahead of the points. -/
def hdL (w h : Int) : List UInt8 := ((Lib.itoa w ++ [120]) ++ Lib.itoa h) ++ [59]
theorem dpts_loop (w h : Int) (p : List S40) (fs : List S85) (hl : p.length ≤ 48) (hok : ∀ s ∈ p, okP s.f0 s.f1 = true) (hd : List UInt8) (hdl : hd.length ≤ 1000) (K : Nat) (r : ByteArray × Int × Int) (hr : ∀ k, K ≤ k → spec_l05Text.l1 k (toB (hd ++ Lib.join (ptsL p) [32])) 0 w h p fs = some r) : ∀ (d i k : Nat), i + d = p.length → K + d + 100 < k →
    spec_l05Text.l0 k (toB (hd ++ Lib.join ((ptsL p).take i) [32])) i w h p fs = some r
  | d, i, 0, _, hh => absurd hh (Nat.not_lt_zero _)
  | 0, i, k + 1, hh, hk => by
    rw [spec_l05Text.l0, if_neg (by omega), List.take_of_length_le (by rw [ptsL_length]; omega)]
    exact hr k (by omega)
  | d + 1, i, k + 1, hh, hk => by
    have hi : i < p.length := by omega
    have hoi := hok p[i] (List.getElem_mem hi)
    have hj := join_take_length [32] rfl 43 (ptsL p) (ptsL_small p hok) i (by rw [ptsL_length]; omega)
    have hi2 := ptL_length _ _ hoi
    have hn := join_take_succ [32] (ptsL p) i (by rw [ptsL_length]; exact hi)
    rw [ptsL_get p i hi] at hn
    have next := dpts_loop w h p fs hl hok hd hdl K r hr d (i + 1) k (by omega) (by omega)
    rw [spec_l05Text.l0, if_pos (by omega)]
    simp only [rdN, getP p i hi, spec_text _ _ hoi k (by omega), ptB_eq, Option.bind_some, e32, toB_append, toB_size]
    rw [w64 (by omega) (by omega), show (i : Int) + 1 = ((i + 1 : Nat) : Int) by omega]
    by_cases h0 : i = 0
    · subst h0
      rw [if_pos rfl] at hn
      rw [hn] at next
      rw [if_neg (by omega), if_pos (by omega), if_pos (by rw [List.length_append]; omega)]
      simpa [Lib.join] using next
    · rw [if_neg h0] at hn
      rw [hn] at next
      rw [if_pos (by omega), if_pos (by rw [List.length_append]; omega), if_pos (by omega), if_pos (by rw [List.length_append, List.length_append, List.length_singleton]; omega)]
      have ea : ((hd ++ Lib.join ((ptsL p).take i) [32]) ++ [32]) ++ ptL p[i].f0 p[i].f1 = hd ++ (Lib.join ((ptsL p).take i) [32] ++ [32] ++ ptL p[i].f0 p[i].f1) := by simp
      rw [ea]
      exact next
theorem dimpl_loop (w h : Int) (hw : 10 ≤ w ∧ w ≤ 20000) (hh0 : 10 ≤ h ∧ h ≤ 20000) (p : List S40) (fs : List S85) (hl : p.length ≤ 48) (hok : ∀ s ∈ p, okP s.f0 s.f1 = true) (K : Nat) (r : ByteArray) (hr : ∀ k, K ≤ k → impl_DrawingText.l1 k (toB (hdL w h ++ Lib.join (ptsL p) [32])) fs (fs.length : Int) 0 = some r) : ∀ (d i k : Nat), i + d = p.length → K + d < k →
    impl_DrawingText.l0 k (((ptsL p).map toB).take i) p (p.length : Int) i w h p fs = some r
  | d, i, 0, _, hh => absurd hh (Nat.not_lt_zero _)
  | 0, i, k + 1, hh, hk => by
    have h1 := Lib.itoa_length_le w (by omega) (by omega)
    have h2 := Lib.itoa_length_le h (by omega) (by omega)
    have hj := join_take_length [32] rfl 43 (ptsL p) (ptsL_small p hok) p.length (by rw [ptsL_length]; omega)
    rw [List.take_of_length_le (by rw [ptsL_length]; omega)] at hj
    rw [impl_DrawingText.l0, if_neg (by omega), List.take_of_length_le (by rw [List.length_map, ptsL_length]; omega), strings_join 32 43 _ (ptsL_small p hok) (by rw [ptsL_length]; omega) (by rw [ptsL_length]; omega), impl_dec w (by omega) (by omega), impl_dec h (by omega) (by omega)]
    simp only [Option.bind_some, e120, e59, toB_append, toB_size]
    rw [if_pos (by omega), if_pos (by simp only [List.length_append, List.length_singleton]; omega), if_pos (by simp only [List.length_append, List.length_singleton]; omega), if_pos (by simp only [List.length_append, List.length_singleton]; omega)]
    exact hr k (by omega)
  | d + 1, i, k + 1, hh, hk => by
    have hi : i < p.length := by omega
    have hoi := hok p[i] (List.getElem_mem hi)
    have next := dimpl_loop w h hw hh0 p fs hl hok K r hr d (i + 1) k (by omega) (by omega)
    rw [List.take_add_one, List.getElem?_map, List.getElem?_eq_getElem (by rw [ptsL_length]; exact hi), ptsL_get p i hi] at next
    rw [impl_DrawingText.l0, if_pos (by omega), if_pos (by omega), if_pos (by omega), rdN, getP p i hi, impl_text, if_pos hoi, Option.bind_some, ptB_eq, if_pos (by rw [List.length_take]; omega), w64 (by omega) (by omega), show (i : Int) + 1 = ((i + 1 : Nat) : Int) by omega]
    exact next
/-- What a ring is written as. -/
def ringB (l : List Int) : ByteArray := if l.length = 0 then toB [45] else toB (Lib.join (l.map Lib.itoa) [44])
theorem ringB_size (l : List Int) (hl : l.length ≤ 64) (hr : ∀ x ∈ l, -9223372036854775808 ≤ x ∧ x ≤ 9223372036854775807) : (ringB l).size ≤ 2000 := by
  have hm : ∀ x ∈ l.map Lib.itoa, x.length ≤ 21 := by
    intro x hx
    obtain ⟨y, hy, rfl⟩ := List.mem_map.1 hx
    exact Lib.itoa_length_le y (hr y hy).1 (hr y hy).2
  have hj := join_take_length [44] rfl 21 (l.map Lib.itoa) hm l.length (by rw [List.length_map]; omega)
  rw [List.take_of_length_le (by rw [List.length_map]; omega)] at hj
  unfold ringB
  split
  · rw [toB_size]; simp
  · rw [toB_size]; omega
def faceT (f : S85) : ByteArray := (((⟨#[59]⟩ : ByteArray) ++ f.f0) ++ (⟨#[32]⟩ : ByteArray)) ++ ringB f.f1
def facesB (fs : List S85) : Nat → Nat → ByteArray → ByteArray
  | 0, _, acc => acc
  | d + 1, i, acc => facesB fs d (i + 1) (acc ++ faceT (fs.getD i z85))
def GoodFs (fs : List S85) : Prop := ∀ i, i < fs.length → (fs.getD i z85).f0.size ≤ 1048576 ∧ (fs.getD i z85).f1.length ≤ 64 ∧ ∀ y ∈ (fs.getD i z85).f1, 0 ≤ y ∧ y ≤ 1000000
theorem ring_both (l : List Int) (hl : l.length ≤ 64) (hr : ∀ y ∈ l, 0 ≤ y ∧ y ≤ 1000000) (k : Nat) (hk : 400 ≤ k) : spec_l01List.f k l = some (ringB l) ∧ impl_ListText.f k l = some (ringB l) := by
  have hr2 : ∀ x ∈ l, -9223372036854775808 ≤ x ∧ x ≤ 9223372036854775807 := fun x hx => by have := hr x hx; omega
  refine ⟨l01List_eq l hl hr2 k (by omega), ?_⟩
  rw [impl_listText l (by omega) hr2 k (by omega)]
  unfold listText ringB
  rw [if_pos ?_]
  rw [Bool.and_eq_true, decide_eq_true_eq]
  refine ⟨List.all_eq_true.2 fun x hx => ?_, hl⟩
  have := hr x hx
  unfold inL
  rw [Bool.and_eq_true, decide_eq_true_eq, decide_eq_true_eq]
  omega
theorem s59 : (⟨#[59]⟩ : ByteArray).size = 1 := rfl
theorem s32 : (⟨#[32]⟩ : ByteArray).size = 1 := rfl
theorem faceT_size (f : S85) (h1 : f.f0.size ≤ 1048576) (h2 : f.f1.length ≤ 64) (h3 : ∀ y ∈ f.f1, 0 ≤ y ∧ y ≤ 1000000) : (faceT f).size ≤ 1100000 := by
  have := ringB_size f.f1 h2 (fun x hx => by have := h3 x hx; omega)
  unfold faceT
  rw [ByteArray.size_append, ByteArray.size_append, ByteArray.size_append, s59, s32]
  omega
theorem dfaces_loop (w h : Int) (p : List S40) (fs : List S85) (hl : fs.length ≤ 24) (hg : GoodFs fs) : ∀ (d i k : Nat) (acc : ByteArray), i + d = fs.length → 500 + d < k → acc.size ≤ 1100000 * i + 10000 →
    spec_l05Text.l1 k acc i w h p fs = some (facesB fs d i acc, w, h) ∧ impl_DrawingText.l1 k acc fs (fs.length : Int) i = some (facesB fs d i acc)
  | d, i, 0, _, _, hh, _ => absurd hh (Nat.not_lt_zero _)
  | 0, i, k + 1, acc, hh, hk, _ => by
    rw [spec_l05Text.l1, impl_DrawingText.l1, if_neg (by omega), if_neg (by omega)]
    exact ⟨rfl, rfl⟩
  | d + 1, i, k + 1, acc, hh, hk, ha => by
    have hi : i < fs.length := by omega
    obtain ⟨g1, g2, g3⟩ := hg i hi
    obtain ⟨b1, b2⟩ := ring_both _ g2 g3 k (by omega)
    have hz := ringB_size _ g2 (fun x hx => by have := g3 x hx; omega)
    have ht := faceT_size _ g1 g2 g3
    have next := dfaces_loop w h p fs hl hg d (i + 1) k (acc ++ faceT (fs.getD i z85)) (by omega) (by omega) (by rw [ByteArray.size_append]; omega)
    unfold faceT at ht
    rw [ByteArray.size_append, ByteArray.size_append, ByteArray.size_append, s59, s32] at ht
    rw [spec_l05Text.l1, impl_DrawingText.l1]
    simp only [rdF_nat, b1, b2, Option.bind_some, ByteArray.size_append, s59, s32]
    rw [w64 (by omega) (by omega), show (i : Int) + 1 = ((i + 1 : Nat) : Int) by omega]
    rw [if_pos (by omega), if_pos (by omega), if_pos (by omega), if_pos (by omega), if_pos (by omega), if_pos (by omega)]
    rw [if_pos (by omega), if_pos (by omega), if_pos (by omega), if_pos (by omega), if_pos (by omega), if_pos (by omega), if_pos (by omega)]
    exact next
theorem drawText_eq (w h : Int) (pts : List S40) (fs : List S85) (hp : pts.length ≤ 1048576) (hf : fs.length ≤ 1048576) (hs : ShortP fs) : ∃ r : ByteArray, ∀ k, 3150000 ≤ k → spec_DrawingText.f k w h pts fs = some r ∧ impl_DrawingText.f k w h pts fs = some r := by
  by_cases hd : drawB w h pts fs = true
  · obtain ⟨⟨hw, hh⟩, ⟨hn, hm⟩, hok⟩ := draw_facts hd
    have hg : GoodFs fs := by
      intro i hi
      have v := drawB_valid hd hs i hi
      have r := (drawB_face hd i hi).1
      refine ⟨(hs i hi).1, ?_, fun y hy => ?_⟩
      · have := v.2.1
        rw [ringP_length] at this
        omega
      · unfold ringOk at r
        have := List.all_eq_true.1 r y hy
        rw [decide_eq_true_eq] at this
        omega
    have h1 := Lib.itoa_length_le w (by omega) (by omega)
    have h2 := Lib.itoa_length_le h (by omega) (by omega)
    have hj := join_take_length [32] rfl 43 (ptsL pts) (ptsL_small pts hok) pts.length (by rw [ptsL_length]; omega)
    rw [List.take_of_length_le (by rw [ptsL_length]; omega)] at hj
    have hdl : (hdL w h).length ≤ 1000 := by
      unfold hdL
      simp only [List.length_append, List.length_singleton]
      omega
    have hfl := fun k (hk : 600 ≤ k) => dfaces_loop w h pts fs hm hg fs.length 0 k (toB (hdL w h ++ Lib.join (ptsL pts) [32])) (by omega) (by omega) (by rw [toB_size, List.length_append]; omega)
    refine ⟨facesB fs fs.length 0 (toB (hdL w h ++ Lib.join (ptsL pts) [32])), fun k hk => ⟨?_, ?_⟩⟩
    · unfold spec_DrawingText.f
      rw [spec_draw_eq w h pts fs hp hf hs k (by omega), Option.bind_some]
      dsimp only
      rw [if_pos hd]
      unfold spec_l05Text.f
      rw [spec_dec' w (by omega) (by omega) k (by omega), spec_dec' h (by omega) (by omega) k (by omega)]
      simp only [Option.bind_some, e120, e59, toB_append, toB_size]
      rw [if_pos (by omega), if_pos (by simp only [List.length_append, List.length_singleton]; omega), if_pos (by simp only [List.length_append, List.length_singleton]; omega)]
      have := dpts_loop w h pts fs hn hok (hdL w h) hdl 600 _ (fun k hk => (hfl k hk).1) pts.length 0 k (by omega) (by omega)
      rw [List.take_zero] at this
      have e : hdL w h ++ Lib.join [] [32] = hdL w h := by simp [Lib.join]
      rw [e] at this
      have this : spec_l05Text.l0 k (toB (Lib.itoa w ++ [120] ++ Lib.itoa h ++ [59])) 0 w h pts fs = _ := this
      rw [this]
      rfl
    · unfold impl_DrawingText.f
      rw [impl_draw_eq w h pts fs hp hf hs k (by omega), Option.bind_some, if_pos hd]
      have := dimpl_loop w h hw hh pts fs hn hok 600 _ (fun k hk => (hfl k hk).2) pts.length 0 k (by omega) (by omega)
      rw [List.take_zero] at this
      exact this
  · refine ⟨toB [], fun k hk => ⟨?_, ?_⟩⟩
    · unfold spec_DrawingText.f
      rw [spec_draw_eq w h pts fs hp hf hs k (by omega), Option.bind_some]
      dsimp only
      rw [if_neg hd]
      rfl
    · unfold impl_DrawingText.f
      rw [impl_draw_eq w h pts fs hp hf hs k (by omega), Option.bind_some, if_neg hd]
      rfl
theorem FnExactDrawingText (w h : Int) (pts : List S38) (fs : List S105) (_ : (Lit.int .i64 w).wf = true) (_ : (Lit.int .i64 h).wf = true) (hp : pts.length ≤ maxLen) (hpg : ∀ x ∈ pts, (Lit.int .i64 x.f0).wf = true ∧ (Lit.int .i64 x.f1).wf = true) (hf : fs.length ≤ maxLen) (hg : ∀ x ∈ fs, x.f0.size ≤ maxLen ∧ (x.f1.length ≤ maxLen ∧ ∀ y ∈ x.f1, (Lit.int .i64 y).wf = true)) : ∃ k, laws_FnExactDrawingText.f k w h pts fs = some true := by
  obtain ⟨k, hk⟩ : ∃ k : Nat, fs.length + 3150000 ≤ k := ⟨_, Nat.le_refl _⟩
  refine ⟨k, ?_⟩
  unfold laws_FnExactDrawingText.f
  obtain ⟨r, e1, e2⟩ := szDrawing_eq w h pts fs hp hf hg k (by omega)
  rw [e1, Option.bind_some]
  by_cases c : r < 0
  · rw [if_pos c]
  · rw [if_neg c]
    obtain ⟨h1, h2, h3⟩ := e2 (by omega)
    have hs := ShortP_conv fs h3
    obtain ⟨q, hq⟩ := drawText_eq w h (conv pts) (convF fs) (by rw [conv_length]; exact h1) (by rw [convF_length]; exact h2) hs
    rw [toDrawing_eq w h pts fs h1 h2 h3 k (by omega)]
    simp only [Option.bind_some]
    rw [(hq k (by omega)).1, (hq k (by omega)).2]
    simp only [Option.bind_some]
    rw [if_pos trivial, eqDrawing_self w h pts fs h1 h2 h3 k (by omega)]
    rfl

end Go.Proofs.YtdegladckdnhiaaDoor.Pure
