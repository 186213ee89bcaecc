/- The plain law: what FnExactListText computes is true at every input. -/
import Derived.Test.YtdegladckdnhiaaDoorRFnExactListTextx
import Derived.Test.YtdegladckdnhiaaDoorMaOpen
import Derived.Lib.ItoaLen
namespace Go.Proofs.YtdegladckdnhiaaDoor.Pure
open Go.RowKit Go.Proofs.YtdegladckdnhiaaDoor.PFnExactListText Go.Proofs.YtdegladckdnhiaaDoorW.PrintWords Go.Proofs.YtdegladckdnhiaaDoorW.PrintLast Go.Proofs.YtdegladckdnhiaaDoorW.PrintMore Go.Proofs.YtdegladckdnhiaaDoor.MaOpen
set_option linter.unusedVariables false
set_option linter.unusedSimpArgs false

theorem w64d {x : Int} (h1 : -9223372036854775808 ≤ x) (h2 : x ≤ 9223372036854775807) : wrap64 x = x := by
  unfold wrap64; omega
theorem strOfNums_eq (l : List Int) : strOfNums l = ⟨(l.map fun n => UInt8.ofNat n.toNat).toArray⟩ := rfl
/-- The digits of a number, the last ahead; none for 0. -/
def rdig (u : Nat) : List Int := if h : u = 0 then [] else ((48 + u % 10 : Nat) : Int) :: rdig (u / 10)
termination_by u
decreasing_by omega
theorem rdig_zero : rdig 0 = [] := by rw [rdig, dif_pos rfl]
theorem rdig_pos {u : Nat} (h : u ≠ 0) : rdig u = ((48 + u % 10 : Nat) : Int) :: rdig (u / 10) := by rw [rdig, dif_neg h]
theorem rdig_length : ∀ (n u : Nat), u < 10 ^ n → (rdig u).length ≤ n
  | 0, u, h => by have : u = 0 := by simpa using h
                  subst this; simp [rdig_zero]
  | n + 1, u, h => by
    by_cases hu : u = 0
    · subst hu; simp [rdig_zero]
    · rw [rdig_pos hu, List.length_cons]
      have := rdig_length n (u / 10) (by rw [Nat.pow_succ] at h; omega)
      omega
theorem decDigits_rdig (u : Nat) (h : u ≠ 0) : Lib.decDigits u = (rdig u).reverse.map fun n => UInt8.ofNat n.toNat := by
  induction u using Nat.strongRecOn with
  | _ u ih =>
    rw [rdig_pos h]
    by_cases h10 : u < 10
    · rw [Lib.decDigits, dif_pos h10, show u / 10 = 0 by omega, rdig_zero, Nat.mod_eq_of_lt h10]
      simp only [List.reverse_cons, List.reverse_nil, List.nil_append, List.map_cons, List.map_nil, Int.toNat_natCast]
    · rw [Lib.decDigits, dif_neg h10, ih (u / 10) (by omega) (by omega)]
      simp only [List.reverse_cons, List.map_append, List.map_cons, List.map_nil, Int.toNat_natCast]
theorem dec_l1 (x3 : List Int) (hx : x3.length < 1000) : ∀ (i : Nat), i ≤ x3.length → ∀ (x6 : List Int), x6.length + i < 1000 → ∀ k, i + 1 ≤ k → spec_l01Dec.l1 k x3 x6 ((i : Int) - 1) = some (strOfNums (x6 ++ (x3.take i).reverse))
  | 0, _, x6, _, k, hk => by
    obtain ⟨k, rfl⟩ : ∃ j, k = j + 1 := ⟨k - 1, by omega⟩
    rw [spec_l01Dec.l1, if_neg (by omega)]
    simp
  | i + 1, hi, x6, h6, k, hk => by
    obtain ⟨k, rfl⟩ : ∃ j, k = j + 1 := ⟨k - 1, by omega⟩
    have ez : (((i + 1 : Nat) : Int) - 1) = (i : Int) := by omega
    rw [ez, spec_l01Dec.l1, if_pos (by omega), if_pos (by omega), if_pos (by omega), if_pos (by omega), w64d (by omega) (by omega),
      dec_l1 x3 hx i (by omega) _ (by simp; omega) k (by omega)]
    have e : x3.take (i + 1) = x3.take i ++ [x3[i]'(by omega)] := by rw [List.take_append_getElem]
    have er : (x3.take (i + 1)).reverse = x3[i]'(by omega) :: (x3.take i).reverse := by rw [e, List.reverse_append]; rfl
    have ed : rd x3 (i : Int) = x3[i]'(by omega) := by simp [rd, List.getD, List.getElem?_eq_getElem (show i < x3.length by omega)]
    rw [er, ed, List.append_assoc]
    rfl
theorem dec_j1 (x3 : List Int) (hx : x3.length < 500) (k : Nat) (hk : x3.length + 2 ≤ k) : spec_l01Dec.j1 k x3 = some (strOfNums x3.reverse) := by
  obtain ⟨k, rfl⟩ : ∃ j, k = j + 1 := ⟨k - 1, by omega⟩
  rw [spec_l01Dec.j1, w64d (by omega) (by omega), dec_l1 x3 (by omega) x3.length (by omega) [] (by simp; omega) k (by omega)]
  simp
theorem dec_l0 (x0 : Int) : ∀ (n u : Nat), u < 10 ^ n → u ≤ 9223372036854775808 → ∀ (m : Int), m.natAbs = u → (m = 9223372036854775808 → False) → ∀ (x3 : List Int), x3.length + n < 400 → ∀ k, n + x3.length + n + 10 ≤ k →
    spec_l01Dec.l0 k x0 x3 m = some (strOfNums ((if x0 < 0 then [45] else []) ++ (x3 ++ rdig u).reverse))
  | n, u, hu, hr, m, hm, hne, x3, hl, k, hk => by
    obtain ⟨k, rfl⟩ : ∃ j, k = j + 1 := ⟨k - 1, by omega⟩
    rw [spec_l01Dec.l0]
    by_cases h0 : m = 0
    · subst h0
      obtain rfl : u = 0 := by simpa using hm.symm
      rw [if_pos rfl, rdig_zero, List.append_nil]
      by_cases hx : x0 < 0
      · rw [if_pos hx, if_pos hx, if_pos (by omega), dec_j1 _ (by simp; omega) k (by simp; omega)]
        simp
      · rw [if_neg hx, if_neg hx, dec_j1 _ (by omega) k (by omega)]
        simp
    · rw [if_neg h0]
      have hu0 : u ≠ 0 := by omega
      obtain ⟨n, rfl⟩ : ∃ j, n = j + 1 := by
        cases n with
        | zero => simp at hu; omega
        | succ j => exact ⟨j, rfl⟩
      have hu' : u / 10 < 10 ^ n := by rw [Nat.pow_succ] at hu; omega
      rw [rdig_pos hu0]
      rcases Int.le_total 0 m with hp | hp
      · have em : Int.tmod m 10 = ((u % 10 : Nat) : Int) := by rw [Int.tmod_eq_emod_of_nonneg hp]; omega
        have ed : Int.tdiv m 10 = ((u / 10 : Nat) : Int) := by rw [Int.tdiv_eq_ediv_of_nonneg hp]; omega
        rw [em, ed, if_neg (by omega), if_pos (by omega), w64d (by omega) (by omega), w64d (by omega) (by omega)]
        rw [dec_l0 x0 n (u / 10) hu' (by omega) _ (by omega) (by omega) _ (by simp; omega) k (by simp; omega)]
        have e : ((48 : Int) + ((u % 10 : Nat) : Int)) % 256 = ((48 + u % 10 : Nat) : Int) := by omega
        rw [e]
        simp
      · have hm' : m = -(u : Int) := by omega
        have em : Int.tmod m 10 = -((u % 10 : Nat) : Int) := by rw [hm', Int.neg_tmod, Int.tmod_eq_emod_of_nonneg (by omega)]; omega
        have ed : Int.tdiv m 10 = -((u / 10 : Nat) : Int) := by rw [hm', Int.neg_tdiv, Int.tdiv_eq_ediv_of_nonneg (by omega)]; omega
        rw [em, ed]
        have fin : spec_l01Dec.l0 k x0 (x3 ++ [((48 + u % 10 : Nat) : Int)]) (-((u / 10 : Nat) : Int)) = some (strOfNums ((if x0 < 0 then [45] else []) ++ (x3 ++ ((48 + u % 10 : Nat) : Int) :: rdig (u / 10)).reverse)) := by
          rw [dec_l0 x0 n (u / 10) hu' (by omega) _ (by omega) (by omega) _ (by simp; omega) k (by simp; omega)]
          simp
        by_cases hd : u % 10 = 0
        · rw [hd] at fin ⊢
          rw [if_neg (by simp), if_pos (by omega), w64d (x := -((u / 10 : Nat) : Int)) (by omega) (by omega)]
          have e : wrap64 (48 + -((0 : Nat) : Int)) % 256 = ((48 + 0 : Nat) : Int) := by rw [w64d (by decide) (by decide)]; decide
          rw [e]
          exact fin
        · rw [if_pos (by omega), if_pos (by omega), w64d (x := -((u / 10 : Nat) : Int)) (by omega) (by omega), Int.neg_neg, w64d (x := ((u % 10 : Nat) : Int)) (by omega) (by omega), w64d (by omega) (by omega)]
          have e : ((48 : Int) + ((u % 10 : Nat) : Int)) % 256 = ((48 + u % 10 : Nat) : Int) := by omega
          rw [e]
          exact fin
  termination_by n => n
/-- THE PLAIN LAW: the reference's digits are the library's numeral. -/
theorem spec_dec (a0 : Int) (h0 : -9223372036854775808 ≤ a0) (h1 : a0 ≤ 9223372036854775807) : ∀ k, 100 ≤ k → spec_l01Dec.f k a0 = some ⟨(Lib.itoa a0).toArray⟩ := by
  intro k hk
  unfold spec_l01Dec.f
  by_cases hz : a0 = 0
  · subst hz
    rw [if_pos rfl]
    have e : Lib.itoa 0 = [48] := by
      unfold Lib.itoa
      rw [if_neg (by omega), show (0 : Int).toNat = 0 from rfl, Lib.decDigits, dif_pos (by omega)]
      rfl
    rw [e]
  · have e20 : a0.natAbs < 10 ^ 20 := by
      have e : (10 : Nat) ^ 20 = 100000000000000000000 := by decide
      omega
    rw [if_neg hz, dec_l0 a0 20 a0.natAbs e20 (by omega) a0 rfl (by omega) [] (by simp) k (by simp; omega)]
    congr 1
    rw [strOfNums_eq]
    congr 2
    unfold Lib.itoa
    by_cases hn : a0 < 0
    · rw [if_pos hn, if_pos hn, decDigits_rdig _ (by omega)]
      simp
    · rw [if_neg hn, if_neg hn, show a0.toNat = a0.natAbs by omega, decDigits_rdig _ (by omega)]
      simp

theorem w64 {x : Int} (h1 : -9223372036854775808 ≤ x) (h2 : x ≤ 9223372036854775807) : wrap64 x = x := by
  unfold wrap64
  omega
theorem wf64 {n : Int} (h : (Lit.int .i64 n).wf = true) : -9223372036854775808 ≤ n ∧ n ≤ 9223372036854775807 := by
  simp [Lit.wf, IntKind.min, IntKind.max, IntKind.bits, IntKind.signed] at h
  omega
theorem toList_nil_iff (s : ByteArray) : s.toList = ([] : List UInt8) ↔ s.size = 0 := by
  rw [ByteArray.toList_eq, List.eq_nil_iff_length_eq_zero, data_length]

theorem bt_nat (s : ByteArray) (i : Nat) (h : i < s.data.toList.length) : bt s (i : Int) = ((s.data.toList[i]).toNat : Int) := by
  have h' : i < s.size := by rw [data_length] at h; exact h
  unfold bt
  rw [Int.toNat_natCast, dif_pos h']
  rfl
theorem size_list (s : ByteArray) : s.size = s.data.toList.length := (data_length s).symm
def toB (l : List UInt8) : ByteArray := ⟨l.toArray⟩
theorem data_toB (l : List UInt8) : (toB l).data.toList = l := rfl
theorem toB_data (s : ByteArray) : toB s.data.toList = s := rfl
theorem toB_inj {a b : List UInt8} (h : toB a = toB b) : a = b := by rw [← data_toB a, h, data_toB]
theorem map_toB : ∀ l : List ByteArray, (l.map (·.data.toList)).map toB = l
  | [] => rfl
  | s :: l => by rw [List.map_cons, List.map_cons, map_toB l]; rfl
theorem toList_toB (l : List UInt8) : (toB l).toList = l := by rw [ByteArray.toList_eq]; rfl
theorem toB_append (a b : List UInt8) : toB a ++ toB b = toB (a ++ b) := by
  apply ByteArray.ext
  rw [ByteArray.data_append]
  unfold toB
  simp
theorem toB_size (a : List UInt8) : (toB a).size = a.length := by rw [size_list, data_toB]

theorem impl_dec (v : Int) (h0 : -9223372036854775808 ≤ v) (h1 : v ≤ 9223372036854775807) : impl_Decimal.f v = some (toB (Lib.itoa v)) := by
  unfold impl_Decimal.f strconv_FormatInt_75.f
  rw [if_pos rfl, if_pos h0, if_pos h1]
  rfl

theorem spec_dec' (v : Int) (h0 : -9223372036854775808 ≤ v) (h1 : v ≤ 9223372036854775807) (k : Nat) (hk : 100 ≤ k) : spec_l01Dec.f k v = some (toB (Lib.itoa v)) := spec_dec v h0 h1 k hk

theorem join_take_succ (sep : List UInt8) (xs : List (List UInt8)) (i : Nat) (hi : i < xs.length) : Lib.join (xs.take (i + 1)) sep = if i = 0 then xs[i] else Lib.join (xs.take i) sep ++ sep ++ xs[i] := by
  cases xs with
  | nil => simp at hi
  | cons x r =>
    cases i with
    | zero => simp [Lib.join_one]
    | succ i =>
      have hr : i < r.length := by simpa using hi
      rw [if_neg (by omega), List.take_succ_cons, List.take_succ_cons, Lib.join_cons, Lib.join_cons, List.getElem_cons_succ, Lib.joinTail_take_succ sep r i r[i] (List.getElem?_eq_getElem hr)]
      simp [List.append_assoc]
theorem join_take_length (sep : List UInt8) (hs : sep.length = 1) (M : Nat) (xs : List (List UInt8)) (hx : ∀ x ∈ xs, x.length ≤ M) : ∀ i, i ≤ xs.length → (Lib.join (xs.take i) sep).length ≤ (M + 1) * i
  | 0, _ => by simp [Lib.join_nil]
  | i + 1, hi => by
    have h1 := join_take_length sep hs M xs hx i (by omega)
    have h2 := hx xs[i] (List.getElem_mem (by omega))
    rw [join_take_succ sep xs i (by omega), Nat.mul_add]
    split
    · omega
    · rw [List.length_append, List.length_append]
      omega
theorem strings_join (c : UInt8) (M : Nat) (xs : List (List UInt8)) (hx : ∀ x ∈ xs, x.length ≤ M) (hM : (M + 1) * xs.length ≤ 1000000000) (hl : xs.length ≤ 1000000000) : strings_Join.f (xs.map toB) (⟨#[c]⟩ : ByteArray) = some (toB (Lib.join xs [c])) := by
  have e : (xs.map toB).map (·.data.toList) = xs := by
    rw [List.map_map]
    exact List.map_id' _
  have e2 : (⟨#[c]⟩ : ByteArray).data.toList = [c] := rfl
  have h := join_take_length [c] rfl M xs hx xs.length (Nat.le_refl _)
  rw [List.take_length] at h
  unfold strings_Join.f
  rw [e, e2, if_pos (by rw [List.length_map]; omega), if_pos (by omega)]
  rfl

theorem rdI (x : List Int) (j : Nat) (h : j < x.length) : rd x (j : Int) = x[j] := by
  unfold rd
  rw [Int.toNat_natCast, List.getD_eq_getElem?_getD, List.getElem?_eq_getElem h]
  rfl
theorem l01List_loop (l : List Int) (hl : l.length ≤ 64) (hr : ∀ x ∈ l, -9223372036854775808 ≤ x ∧ x ≤ 9223372036854775807) : ∀ (d i k : Nat), i + d = l.length → d + 100 < k →
    spec_l01List.l0 k l (toB (Lib.join ((l.map Lib.itoa).take i) [44])) i = some (toB (Lib.join (l.map Lib.itoa) [44]))
  | d, i, 0, _, h => absurd h (Nat.not_lt_zero _)
  | 0, i, k + 1, h, _ => by
    rw [spec_l01List.l0, if_neg (by omega), List.take_of_length_le (by rw [List.length_map]; omega)]
  | d + 1, i, k + 1, h, hk => by
    have hi : i < l.length := by omega
    have hm : ∀ x ∈ l.map Lib.itoa, x.length ≤ 21 := by
      intro x hx
      obtain ⟨y, hy, rfl⟩ := List.mem_map.1 hx
      exact Lib.itoa_length_le y (hr y hy).1 (hr y hy).2
    have hxi := hr l[i] (List.getElem_mem hi)
    have hj := join_take_length [44] rfl 21 (l.map Lib.itoa) hm i (by rw [List.length_map]; omega)
    have hi2 := Lib.itoa_length_le l[i] hxi.1 hxi.2
    have hn := join_take_succ [44] (l.map Lib.itoa) i (by rw [List.length_map]; exact hi)
    rw [List.getElem_map] at hn
    have next := l01List_loop l hl hr d (i + 1) k (by omega) (by omega)
    have e44 : (⟨#[44]⟩ : ByteArray) = toB [44] := rfl
    rw [spec_l01List.l0, if_pos (by omega), rdI l i hi, spec_dec' _ hxi.1 hxi.2 k (by omega), Option.bind_some, Option.bind_some, e44, toB_append, toB_append, toB_size, toB_size, toB_size, w64 (by omega) (by omega), show (i : Int) + 1 = ((i + 1 : Nat) : Int) by omega]
    by_cases h0 : i = 0
    · subst h0
      rw [if_pos rfl] at hn
      rw [hn] at next
      rw [if_neg (by omega), if_pos (by omega), toB_append, if_pos (by omega)]
      exact next
    · rw [if_neg h0] at hn
      rw [hn] at next
      rw [if_pos (by omega), if_pos (by omega), if_pos (by omega), if_pos (by rw [List.length_append, List.length_singleton]; omega)]
      exact next
theorem l01List_eq (l : List Int) (hl : l.length ≤ 64) (hr : ∀ x ∈ l, -9223372036854775808 ≤ x ∧ x ≤ 9223372036854775807) (k : Nat) (hk : 200 ≤ k) : spec_l01List.f k l = some (if l.length = 0 then toB [45] else toB (Lib.join (l.map Lib.itoa) [44])) := by
  unfold spec_l01List.f
  by_cases h : l.length = 0
  · rw [if_pos (by omega), if_pos h]
    rfl
  · rw [if_neg (by omega), if_neg h]
    have := l01List_loop l hl hr l.length 0 k (by omega) (by omega)
    exact this
theorem implList_loop (l : List Int) (hl : l.length ≤ 64) (hr : ∀ x ∈ l, -9223372036854775808 ≤ x ∧ x ≤ 9223372036854775807) : ∀ (d i k : Nat), i + d = l.length → d < k →
    impl_ListText.l1 k (((l.map Lib.itoa).map toB).take i) l (l.length : Int) i = some (toB (Lib.join (l.map Lib.itoa) [44]))
  | d, i, 0, _, h => absurd h (Nat.not_lt_zero _)
  | 0, i, k + 1, h, _ => by
    have hm : ∀ x ∈ l.map Lib.itoa, x.length ≤ 21 := by
      intro x hx
      obtain ⟨y, hy, rfl⟩ := List.mem_map.1 hx
      exact Lib.itoa_length_le y (hr y hy).1 (hr y hy).2
    rw [impl_ListText.l1, if_neg (by omega), List.take_of_length_le (by rw [List.length_map, List.length_map]; omega), strings_join 44 21 _ hm (by rw [List.length_map]; omega) (by rw [List.length_map]; omega)]
    rfl
  | d + 1, i, k + 1, h, hk => by
    have hi : i < l.length := by omega
    have hxi := hr l[i] (List.getElem_mem hi)
    have next := implList_loop l hl hr d (i + 1) k (by omega) (by omega)
    rw [List.take_add_one, List.getElem?_map, List.getElem?_map, List.getElem?_eq_getElem hi] at next
    rw [impl_ListText.l1, if_pos (by omega), if_pos (by omega), if_pos (by omega), rdI l i hi, impl_dec _ hxi.1 hxi.2, Option.bind_some, if_pos (by rw [List.length_take]; omega), w64 (by omega) (by omega), show (i : Int) + 1 = ((i + 1 : Nat) : Int) by omega]
    exact next
def inL (n : Int) : Bool := decide (n ≥ -1000000000000) && decide (n ≤ 1000000000000)
theorem spec_in (n : Int) : spec_l00In.f n (-1000000000000) 1000000000000 = some (inL n) := by
  unfold spec_l00In.f inL
  by_cases h : n ≥ -1000000000000
  · rw [if_pos h, decide_eq_true h]; rfl
  · rw [if_neg h, decide_eq_false h]; rfl
theorem impl_in (n : Int) : impl_within.f n (-1000000000000) 1000000000000 = some (inL n) := by
  unfold impl_within.f inL
  by_cases h : n ≥ -1000000000000
  · rw [if_pos h, decide_eq_true h]; rfl
  · rw [if_neg h, decide_eq_false h]; rfl
theorem fits_loop (l : List Int) (hl : l.length ≤ 1048576) : ∀ (d i k : Nat), i + d = l.length → d < k → spec_l01Fits.l0 k l i = some ((l.drop i).all inL && decide (l.length ≤ 64))
  | d, i, 0, _, h => absurd h (Nat.not_lt_zero _)
  | 0, i, k + 1, h, _ => by
    rw [spec_l01Fits.l0, if_neg (by omega), List.drop_eq_nil_of_le (by omega), List.all_nil, Bool.true_and]
    congr 1
    apply decide_eq_decide.2
    omega
  | d + 1, i, k + 1, h, hk => by
    have hi : i < l.length := by omega
    rw [spec_l01Fits.l0, if_pos (by omega), if_pos (by omega), rdI l i hi, spec_in, Option.bind_some, w64 (by omega) (by omega), show (i : Int) + 1 = ((i + 1 : Nat) : Int) by omega, fits_loop l hl d (i + 1) k (by omega) (by omega), List.drop_eq_getElem_cons hi, List.all_cons]
    cases inL l[i] <;> rfl
theorem implFits_loop (l : List Int) (hl : l.length ≤ 64) (hr : ∀ x ∈ l, -9223372036854775808 ≤ x ∧ x ≤ 9223372036854775807) : ∀ (d i k : Nat), i + d = l.length → d + 100 < k →
    impl_ListText.l0 k l l (l.length : Int) i = some (if (l.drop i).all inL = true then (if l.length = 0 then toB [45] else toB (Lib.join (l.map Lib.itoa) [44])) else toB [])
  | d, i, 0, _, h => absurd h (Nat.not_lt_zero _)
  | 0, i, k + 1, h, hk => by
    rw [impl_ListText.l0, if_neg (by omega), List.drop_eq_nil_of_le (by omega), if_pos List.all_nil]
    by_cases h0 : l.length = 0
    · rw [if_pos (by omega), if_pos h0]
      rfl
    · rw [if_neg (by omega), if_neg h0]
      have := implList_loop l hl hr l.length 0 k (by omega) (by omega)
      rw [List.take_zero] at this
      exact this
  | d + 1, i, k + 1, h, hk => by
    have hi : i < l.length := by omega
    rw [impl_ListText.l0, if_pos (by omega), if_pos (by omega), if_pos (by omega), rdI l i hi, impl_in, Option.bind_some, w64 (by omega) (by omega), show (i : Int) + 1 = ((i + 1 : Nat) : Int) by omega, implFits_loop l hl hr d (i + 1) k (by omega) (by omega), List.drop_eq_getElem_cons hi, List.all_cons]
    cases inL l[i]
    · rw [if_neg (by decide), Bool.false_and, if_neg (by decide)]
      rfl
    · rw [if_pos rfl, Bool.true_and]
/-- What a list is written as. -/
def listText (l : List Int) : ByteArray := if (l.all inL && decide (l.length ≤ 64)) = true then (if l.length = 0 then toB [45] else toB (Lib.join (l.map Lib.itoa) [44])) else toB []
theorem spec_listText (l : List Int) (hl : l.length ≤ 1048576) (hr : ∀ x ∈ l, -9223372036854775808 ≤ x ∧ x ≤ 9223372036854775807) (k : Nat) (hk : l.length + 300 ≤ k) : spec_ListText.f k l = some (listText l) := by
  unfold spec_ListText.f spec_l01Fits.f listText
  have := fits_loop l hl l.length 0 k (by omega) (by omega)
  rw [List.drop_zero] at this
  have this : spec_l01Fits.l0 k l 0 = _ := this
  rw [this, Option.bind_some]
  by_cases h : (l.all inL && decide (l.length ≤ 64)) = true
  · have h64 : l.length ≤ 64 := by
      rw [Bool.and_eq_true, decide_eq_true_eq] at h
      exact h.2
    rw [if_pos h, if_pos h, l01List_eq l h64 hr k (by omega)]
    rfl
  · rw [if_neg h, if_neg h]
    rfl
theorem impl_listText (l : List Int) (hl : l.length ≤ 1048576) (hr : ∀ x ∈ l, -9223372036854775808 ≤ x ∧ x ≤ 9223372036854775807) (k : Nat) (hk : l.length + 300 ≤ k) : impl_ListText.f k l = some (listText l) := by
  unfold impl_ListText.f listText
  by_cases h64 : l.length ≤ 64
  · rw [if_neg (by omega), decide_eq_true h64, Bool.and_true]
    have := implFits_loop l h64 hr l.length 0 k (by omega) (by omega)
    rw [List.drop_zero] at this
    exact this
  · rw [if_pos (by omega), decide_eq_false h64, Bool.and_false, if_neg (by decide)]
    rfl

theorem toInt64S_loop (l : List Int) (h : l.length ≤ 1048576) : ∀ (d k i : Nat) (x : List Int), i + d = l.length → d < k → x.length = l.length → laws_toInt64S.l0 k l x i = some (x.take i ++ l.drop i)
  | d, 0, i, x, _, h2, _ => absurd h2 (by omega)
  | 0, k + 1, i, x, h1, h2, hx => by
    rw [laws_toInt64S.l0, if_neg (by omega), List.take_of_length_le (by omega), List.drop_eq_nil_of_le (by omega), List.append_nil]
  | d + 1, k + 1, i, x, h1, h2, hx => by
    have hi : i < l.length := by omega
    have e : rd l (i : Int) = l[i] := by
      unfold rd
      rw [Int.toNat_natCast, List.getD_eq_getElem?_getD, List.getElem?_eq_getElem hi]
      rfl
    rw [laws_toInt64S.l0, if_pos (by omega), if_pos (by omega), if_pos (by omega), w64 (by omega) (by omega), show (i : Int) + 1 = ((i + 1 : Nat) : Int) by omega, toInt64S_loop l h d k (i + 1) _ (by omega) (by omega) (by rw [List.length_set, hx]), e, Int.toNat_natCast, List.take_succ_eq_append_getElem (by rw [List.length_set, hx]; exact hi), List.getElem_set_self, List.take_set_of_le (Nat.le_refl _), List.append_assoc, List.drop_eq_getElem_cons hi]
    rfl
theorem toInt64S_eq (l : List Int) (h : l.length ≤ 1048576) (k : Nat) (hk : l.length < k) : laws_toInt64S.f k l = some l := by
  unfold laws_toInt64S.f
  rw [if_pos (by omega), if_pos (by omega)]
  have := toInt64S_loop l h l.length k 0 (List.replicate ((l.length : Int)).toNat 0) (by omega) hk (by rw [List.length_replicate]; omega)
  rw [List.take_zero, List.nil_append, List.drop_zero] at this
  exact this

theorem rd_nat (x : List Int) (j : Nat) : rd x (j : Int) = x.getD j 0 := by
  unfold rd
  rw [Int.toNat_natCast]
theorem w1' {i : Nat} (hi : i ≤ 4611686018427387904) : wrap64 ((i : Int) + 1) = ((i + 1 : Nat) : Int) := by
  rw [w64 (by omega) (by omega)]
  omega
theorem eqInt64S_loop (l : List Int) (h : l.length ≤ 1000000000) : ∀ (d k i : Nat), l.length - i ≤ d → d < k → laws_eqInt64S.l0 k l l i = some true
  | d, 0, i, _, h2 => absurd h2 (by omega)
  | d, k + 1, i, h1, h2 => by
    simp only [laws_eqInt64S.l0]
    by_cases hi : i < l.length
    · rw [if_pos (by omega), if_pos (by omega), if_pos (by omega), if_pos trivial, w1' (by omega)]
      exact eqInt64S_loop l h (d - 1) k (i + 1) (by omega) (by omega)
    · rw [if_neg (by omega)]
theorem eqInt64S_self (l : List Int) (h : l.length ≤ 1000000000) (k : Nat) (hk : l.length < k) : laws_eqInt64S.f k l l = some true := by
  unfold laws_eqInt64S.f
  rw [if_pos rfl]
  exact eqInt64S_loop l h l.length k 0 (by omega) hk

theorem FnExactListText (l : List Int) (hl : l.length ≤ maxLen) (hg : ∀ x ∈ l, (Lit.int .i64 x).wf = true) : ∃ k, laws_FnExactListText.f k l = some true := by
  by_cases h : (l.length : Int) > 1048576
  · refine ⟨0, ?_⟩
    unfold laws_FnExactListText.f
    rw [if_pos h]
  · have hz : l.length ≤ 1048576 := by omega
    have hr : ∀ x ∈ l, -9223372036854775808 ≤ x ∧ x ≤ 9223372036854775807 := fun x hx => wf64 (hg x hx)
    obtain ⟨B, hB⟩ : ∃ B : Nat, 2000000 ≤ B := ⟨_, Nat.le_refl _⟩
    refine ⟨B, ?_⟩
    unfold laws_FnExactListText.f
    rw [if_neg h, toInt64S_eq l hz B (by omega)]
    simp only [Option.bind_some]
    rw [spec_listText l hz hr B (by omega), impl_listText l hz hr B (by omega)]
    simp only [Option.bind_some]
    rw [if_pos trivial, eqInt64S_self l (by omega) B (by omega), Option.bind_some, if_pos rfl]

end Go.Proofs.YtdegladckdnhiaaDoor.Pure
