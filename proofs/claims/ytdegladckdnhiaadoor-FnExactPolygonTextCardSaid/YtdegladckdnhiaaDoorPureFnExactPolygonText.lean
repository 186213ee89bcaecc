/- The plain law: what FnExactPolygonText computes is true at every input. -/
import Derived.Test.YtdegladckdnhiaaDoorLFnExactPolygonTextb
import Derived.Lib.ItoaLen
namespace Go.Proofs.YtdegladckdnhiaaDoor.Pure
open Go.RowKit Go.Proofs.YtdegladckdnhiaaDoor.PFnExactPolygonText Go.Proofs.YtdegladckdnhiaaDoorW.PrintWords Go.Proofs.YtdegladckdnhiaaDoorW.PrintLast Go.Proofs.YtdegladckdnhiaaDoorW.PrintMore
set_option linter.unusedVariables false
set_option linter.unusedSimpArgs false

theorem w64d {x : Int} (h1 : -9223372036854775808 ≤ x) (h2 : x ≤ 9223372036854775807) : wrap64 x = x := by
  unfold wrap64; omega
theorem strOfNums_eq (l : List Int) : strOfNums l = ⟨(l.map fun n => UInt8.ofNat n.toNat).toArray⟩ := rfl
/-- The digits of a number, the last ahead; none for 0. -/
def rdig (u : Nat) : List Int := if h : u = 0 then [] else ((48 + u % 10 : Nat) : Int) :: rdig (u / 10)
termination_by u
decreasing_by omega
theorem rdig_zero : rdig 0 = [] := by rw [rdig, dif_pos rfl]
theorem rdig_pos {u : Nat} (h : u ≠ 0) : rdig u = ((48 + u % 10 : Nat) : Int) :: rdig (u / 10) := by rw [rdig, dif_neg h]
theorem rdig_length : ∀ (n u : Nat), u < 10 ^ n → (rdig u).length ≤ n
  | 0, u, h => by have : u = 0 := by simpa using h
                  subst this; simp [rdig_zero]
  | n + 1, u, h => by
    by_cases hu : u = 0
    · subst hu; simp [rdig_zero]
    · rw [rdig_pos hu, List.length_cons]
      have := rdig_length n (u / 10) (by rw [Nat.pow_succ] at h; omega)
      omega
theorem decDigits_rdig (u : Nat) (h : u ≠ 0) : Lib.decDigits u = (rdig u).reverse.map fun n => UInt8.ofNat n.toNat := by
  induction u using Nat.strongRecOn with
  | _ u ih =>
    rw [rdig_pos h]
    by_cases h10 : u < 10
    · rw [Lib.decDigits, dif_pos h10, show u / 10 = 0 by omega, rdig_zero, Nat.mod_eq_of_lt h10]
      simp only [List.reverse_cons, List.reverse_nil, List.nil_append, List.map_cons, List.map_nil, Int.toNat_natCast]
    · rw [Lib.decDigits, dif_neg h10, ih (u / 10) (by omega) (by omega)]
      simp only [List.reverse_cons, List.map_append, List.map_cons, List.map_nil, Int.toNat_natCast]
theorem dec_l1 (x3 : List Int) (hx : x3.length < 1000) : ∀ (i : Nat), i ≤ x3.length → ∀ (x6 : List Int), x6.length + i < 1000 → ∀ k, i + 1 ≤ k → spec_l01Dec.l1 k x3 x6 ((i : Int) - 1) = some (strOfNums (x6 ++ (x3.take i).reverse))
  | 0, _, x6, _, k, hk => by
    obtain ⟨k, rfl⟩ : ∃ j, k = j + 1 := ⟨k - 1, by omega⟩
    rw [spec_l01Dec.l1, if_neg (by omega)]
    simp
  | i + 1, hi, x6, h6, k, hk => by
    obtain ⟨k, rfl⟩ : ∃ j, k = j + 1 := ⟨k - 1, by omega⟩
    have ez : (((i + 1 : Nat) : Int) - 1) = (i : Int) := by omega
    rw [ez, spec_l01Dec.l1, if_pos (by omega), if_pos (by omega), if_pos (by omega), if_pos (by omega), w64d (by omega) (by omega),
      dec_l1 x3 hx i (by omega) _ (by simp; omega) k (by omega)]
    have e : x3.take (i + 1) = x3.take i ++ [x3[i]'(by omega)] := by rw [List.take_append_getElem]
    have er : (x3.take (i + 1)).reverse = x3[i]'(by omega) :: (x3.take i).reverse := by rw [e, List.reverse_append]; rfl
    have ed : rd x3 (i : Int) = x3[i]'(by omega) := by simp [rd, List.getD, List.getElem?_eq_getElem (show i < x3.length by omega)]
    rw [er, ed, List.append_assoc]
    rfl
theorem dec_j1 (x3 : List Int) (hx : x3.length < 500) (k : Nat) (hk : x3.length + 2 ≤ k) : spec_l01Dec.j1 k x3 = some (strOfNums x3.reverse) := by
  obtain ⟨k, rfl⟩ : ∃ j, k = j + 1 := ⟨k - 1, by omega⟩
  rw [spec_l01Dec.j1, w64d (by omega) (by omega), dec_l1 x3 (by omega) x3.length (by omega) [] (by simp; omega) k (by omega)]
  simp
theorem dec_l0 (x0 : Int) : ∀ (n u : Nat), u < 10 ^ n → u ≤ 9223372036854775808 → ∀ (m : Int), m.natAbs = u → (m = 9223372036854775808 → False) → ∀ (x3 : List Int), x3.length + n < 400 → ∀ k, n + x3.length + n + 10 ≤ k →
    spec_l01Dec.l0 k x0 x3 m = some (strOfNums ((if x0 < 0 then [45] else []) ++ (x3 ++ rdig u).reverse))
  | n, u, hu, hr, m, hm, hne, x3, hl, k, hk => by
    obtain ⟨k, rfl⟩ : ∃ j, k = j + 1 := ⟨k - 1, by omega⟩
    rw [spec_l01Dec.l0]
    by_cases h0 : m = 0
    · subst h0
      obtain rfl : u = 0 := by simpa using hm.symm
      rw [if_pos rfl, rdig_zero, List.append_nil]
      by_cases hx : x0 < 0
      · rw [if_pos hx, if_pos hx, if_pos (by omega), dec_j1 _ (by simp; omega) k (by simp; omega)]
        simp
      · rw [if_neg hx, if_neg hx, dec_j1 _ (by omega) k (by omega)]
        simp
    · rw [if_neg h0]
      have hu0 : u ≠ 0 := by omega
      obtain ⟨n, rfl⟩ : ∃ j, n = j + 1 := by
        cases n with
        | zero => simp at hu; omega
        | succ j => exact ⟨j, rfl⟩
      have hu' : u / 10 < 10 ^ n := by rw [Nat.pow_succ] at hu; omega
      rw [rdig_pos hu0]
      rcases Int.le_total 0 m with hp | hp
      · have em : Int.tmod m 10 = ((u % 10 : Nat) : Int) := by rw [Int.tmod_eq_emod_of_nonneg hp]; omega
        have ed : Int.tdiv m 10 = ((u / 10 : Nat) : Int) := by rw [Int.tdiv_eq_ediv_of_nonneg hp]; omega
        rw [em, ed, if_neg (by omega), if_pos (by omega), w64d (by omega) (by omega), w64d (by omega) (by omega)]
        rw [dec_l0 x0 n (u / 10) hu' (by omega) _ (by omega) (by omega) _ (by simp; omega) k (by simp; omega)]
        have e : ((48 : Int) + ((u % 10 : Nat) : Int)) % 256 = ((48 + u % 10 : Nat) : Int) := by omega
        rw [e]
        simp
      · have hm' : m = -(u : Int) := by omega
        have em : Int.tmod m 10 = -((u % 10 : Nat) : Int) := by rw [hm', Int.neg_tmod, Int.tmod_eq_emod_of_nonneg (by omega)]; omega
        have ed : Int.tdiv m 10 = -((u / 10 : Nat) : Int) := by rw [hm', Int.neg_tdiv, Int.tdiv_eq_ediv_of_nonneg (by omega)]; omega
        rw [em, ed]
        have fin : spec_l01Dec.l0 k x0 (x3 ++ [((48 + u % 10 : Nat) : Int)]) (-((u / 10 : Nat) : Int)) = some (strOfNums ((if x0 < 0 then [45] else []) ++ (x3 ++ ((48 + u % 10 : Nat) : Int) :: rdig (u / 10)).reverse)) := by
          rw [dec_l0 x0 n (u / 10) hu' (by omega) _ (by omega) (by omega) _ (by simp; omega) k (by simp; omega)]
          simp
        by_cases hd : u % 10 = 0
        · rw [hd] at fin ⊢
          rw [if_neg (by simp), if_pos (by omega), w64d (x := -((u / 10 : Nat) : Int)) (by omega) (by omega)]
          have e : wrap64 (48 + -((0 : Nat) : Int)) % 256 = ((48 + 0 : Nat) : Int) := by rw [w64d (by decide) (by decide)]; decide
          rw [e]
          exact fin
        · rw [if_pos (by omega), if_pos (by omega), w64d (x := -((u / 10 : Nat) : Int)) (by omega) (by omega), Int.neg_neg, w64d (x := ((u % 10 : Nat) : Int)) (by omega) (by omega), w64d (by omega) (by omega)]
          have e : ((48 : Int) + ((u % 10 : Nat) : Int)) % 256 = ((48 + u % 10 : Nat) : Int) := by omega
          rw [e]
          exact fin
  termination_by n => n
/-- THE PLAIN LAW: the reference's digits are the library's numeral. -/
theorem spec_dec (a0 : Int) (h0 : -9223372036854775808 ≤ a0) (h1 : a0 ≤ 9223372036854775807) : ∀ k, 100 ≤ k → spec_l01Dec.f k a0 = some ⟨(Lib.itoa a0).toArray⟩ := by
  intro k hk
  unfold spec_l01Dec.f
  by_cases hz : a0 = 0
  · subst hz
    rw [if_pos rfl]
    have e : Lib.itoa 0 = [48] := by
      unfold Lib.itoa
      rw [if_neg (by omega), show (0 : Int).toNat = 0 from rfl, Lib.decDigits, dif_pos (by omega)]
      rfl
    rw [e]
  · have e20 : a0.natAbs < 10 ^ 20 := by
      have e : (10 : Nat) ^ 20 = 100000000000000000000 := by decide
      omega
    rw [if_neg hz, dec_l0 a0 20 a0.natAbs e20 (by omega) a0 rfl (by omega) [] (by simp) k (by simp; omega)]
    congr 1
    rw [strOfNums_eq]
    congr 2
    unfold Lib.itoa
    by_cases hn : a0 < 0
    · rw [if_pos hn, if_pos hn, decDigits_rdig _ (by omega)]
      simp
    · rw [if_neg hn, if_neg hn, show a0.toNat = a0.natAbs by omega, decDigits_rdig _ (by omega)]
      simp

theorem bt_nat (s : ByteArray) (i : Nat) (h : i < s.data.toList.length) : bt s (i : Int) = ((s.data.toList[i]).toNat : Int) := by
  have h' : i < s.size := by rw [data_length] at h; exact h
  unfold bt
  rw [Int.toNat_natCast, dif_pos h']
  rfl
theorem size_list (s : ByteArray) : s.size = s.data.toList.length := (data_length s).symm
def toB (l : List UInt8) : ByteArray := ⟨l.toArray⟩
theorem data_toB (l : List UInt8) : (toB l).data.toList = l := rfl
theorem toB_data (s : ByteArray) : toB s.data.toList = s := rfl
theorem toB_inj {a b : List UInt8} (h : toB a = toB b) : a = b := by rw [← data_toB a, h, data_toB]
theorem map_toB : ∀ l : List ByteArray, (l.map (·.data.toList)).map toB = l
  | [] => rfl
  | s :: l => by rw [List.map_cons, List.map_cons, map_toB l]; rfl
theorem toList_toB (l : List UInt8) : (toB l).toList = l := by rw [ByteArray.toList_eq]; rfl
theorem toB_append (a b : List UInt8) : toB a ++ toB b = toB (a ++ b) := by
  apply ByteArray.ext
  rw [ByteArray.data_append]
  unfold toB
  simp
theorem toB_size (a : List UInt8) : (toB a).size = a.length := by rw [size_list, data_toB]

theorem impl_dec (v : Int) (h0 : -9223372036854775808 ≤ v) (h1 : v ≤ 9223372036854775807) : impl_Decimal.f v = some (toB (Lib.itoa v)) := by
  unfold impl_Decimal.f strconv_FormatInt_75.f
  rw [if_pos rfl, if_pos h0, if_pos h1]
  rfl

theorem spec_dec' (v : Int) (h0 : -9223372036854775808 ≤ v) (h1 : v ≤ 9223372036854775807) (k : Nat) (hk : 100 ≤ k) : spec_l01Dec.f k v = some (toB (Lib.itoa v)) := spec_dec v h0 h1 k hk

def ptB (x y : Int) : ByteArray := toB (Lib.itoa x ++ [44] ++ Lib.itoa y)
theorem ptB_size (x y : Int) (h : okP x y = true) : (ptB x y).size ≤ 43 := by
  obtain ⟨⟨a, b⟩, c, d⟩ := (okP_iff x y).1 h
  have h1 := Lib.itoa_length_le x (by omega) (by omega)
  have h2 := Lib.itoa_length_le y (by omega) (by omega)
  unfold ptB
  rw [toB_size, List.length_append, List.length_append, List.length_singleton]
  omega
theorem spec_text (x y : Int) (h : okP x y = true) (k : Nat) (hk : 100 ≤ k) : spec_l02Text.f k x y = some (ptB x y) := by
  obtain ⟨⟨a, b⟩, c, d⟩ := (okP_iff x y).1 h
  have h1 := Lib.itoa_length_le x (by omega) (by omega)
  have h2 := Lib.itoa_length_le y (by omega) (by omega)
  have e44 : (⟨#[44]⟩ : ByteArray) = toB [44] := rfl
  unfold spec_l02Text.f ptB
  rw [spec_dec' x (by omega) (by omega) k hk, spec_dec' y (by omega) (by omega) k hk, Option.bind_some, Option.bind_some, e44, toB_append, toB_append, toB_size, toB_size, toB_size, if_pos (by omega), if_pos (by rw [List.length_append, List.length_singleton]; omega)]
theorem impl_text (x y : Int) : impl_PointText.f x y = some (if okP x y = true then ptB x y else toB []) := by
  unfold impl_PointText.f
  rw [impl_ValidPoint_eq, Option.bind_some]
  by_cases h : okP x y = true
  · obtain ⟨⟨a, b⟩, c, d⟩ := (okP_iff x y).1 h
    have h1 := Lib.itoa_length_le x (by omega) (by omega)
    have h2 := Lib.itoa_length_le y (by omega) (by omega)
    have e44 : (⟨#[44]⟩ : ByteArray) = toB [44] := rfl
    unfold ptB
    rw [if_pos h, if_pos h, impl_dec x (by omega) (by omega), impl_dec y (by omega) (by omega), Option.bind_some, Option.bind_some, e44, toB_append, toB_append, toB_size, toB_size, toB_size, if_pos (by omega), if_pos (by rw [List.length_append, List.length_singleton]; omega)]
  · rw [if_neg h, if_neg h]
    rfl

def ptL (x y : Int) : List UInt8 := Lib.itoa x ++ [44] ++ Lib.itoa y
theorem ptB_eq (x y : Int) : ptB x y = toB (ptL x y) := rfl
theorem ptL_length (x y : Int) (h : okP x y = true) : (ptL x y).length ≤ 43 := by
  have := ptB_size x y h
  rwa [ptB_eq, toB_size] at this

theorem join_take_succ (sep : List UInt8) (xs : List (List UInt8)) (i : Nat) (hi : i < xs.length) : Lib.join (xs.take (i + 1)) sep = if i = 0 then xs[i] else Lib.join (xs.take i) sep ++ sep ++ xs[i] := by
  cases xs with
  | nil => simp at hi
  | cons x r =>
    cases i with
    | zero => simp [Lib.join_one]
    | succ i =>
      have hr : i < r.length := by simpa using hi
      rw [if_neg (by omega), List.take_succ_cons, List.take_succ_cons, Lib.join_cons, Lib.join_cons, List.getElem_cons_succ, Lib.joinTail_take_succ sep r i r[i] (List.getElem?_eq_getElem hr)]
      simp [List.append_assoc]
theorem join_take_length (sep : List UInt8) (hs : sep.length = 1) (M : Nat) (xs : List (List UInt8)) (hx : ∀ x ∈ xs, x.length ≤ M) : ∀ i, i ≤ xs.length → (Lib.join (xs.take i) sep).length ≤ (M + 1) * i
  | 0, _ => by simp [Lib.join_nil]
  | i + 1, hi => by
    have h1 := join_take_length sep hs M xs hx i (by omega)
    have h2 := hx xs[i] (List.getElem_mem (by omega))
    rw [join_take_succ sep xs i (by omega), Nat.mul_add]
    split
    · omega
    · rw [List.length_append, List.length_append]
      omega
theorem strings_join (c : UInt8) (M : Nat) (xs : List (List UInt8)) (hx : ∀ x ∈ xs, x.length ≤ M) (hM : (M + 1) * xs.length ≤ 1000000000) (hl : xs.length ≤ 1000000000) : strings_Join.f (xs.map toB) (⟨#[c]⟩ : ByteArray) = some (toB (Lib.join xs [c])) := by
  have e : (xs.map toB).map (·.data.toList) = xs := by
    rw [List.map_map]
    exact List.map_id' _
  have e2 : (⟨#[c]⟩ : ByteArray).data.toList = [c] := rfl
  have h := join_take_length [c] rfl M xs hx xs.length (Nat.le_refl _)
  rw [List.take_length] at h
  unfold strings_Join.f
  rw [e, e2, if_pos (by rw [List.length_map]; omega), if_pos (by omega)]
  rfl

theorem getP (p : List S40) (i : Nat) (h : i < p.length) : p.getD i z40 = p[i] := by
  rw [List.getD_eq_getElem?_getD, List.getElem?_eq_getElem h]
  rfl
def ptsL (p : List S40) : List (List UInt8) := p.map fun s => ptL s.f0 s.f1
theorem ptsL_length (p : List S40) : (ptsL p).length = p.length := List.length_map _
theorem ptsL_get (p : List S40) (i : Nat) (h : i < p.length) : (ptsL p)[i]'(by rw [ptsL_length]; exact h) = ptL p[i].f0 p[i].f1 := by
  unfold ptsL
  rw [List.getElem_map]
theorem ptsL_small (p : List S40) (hok : ∀ s ∈ p, okP s.f0 s.f1 = true) : ∀ x ∈ ptsL p, x.length ≤ 43 := by
  intro x hx
  obtain ⟨s, hs, rfl⟩ := List.mem_map.1 hx
  exact ptL_length _ _ (hok s hs)
theorem l03Text_loop (p : List S40) (hl : p.length ≤ 1000) (hok : ∀ s ∈ p, okP s.f0 s.f1 = true) : ∀ (d i k : Nat), i + d = p.length → d + 100 < k →
    spec_l03Text.l0 k p (toB (Lib.join ((ptsL p).take i) [32])) i = some (toB (Lib.join (ptsL p) [32]))
  | d, i, 0, _, h => absurd h (Nat.not_lt_zero _)
  | 0, i, k + 1, h, _ => by
    rw [spec_l03Text.l0, if_neg (by omega), List.take_of_length_le (by rw [ptsL_length]; omega)]
  | d + 1, i, k + 1, h, hk => by
    have hi : i < p.length := by omega
    have hoi := hok p[i] (List.getElem_mem hi)
    have hj := join_take_length [32] rfl 43 (ptsL p) (ptsL_small p hok) i (by rw [ptsL_length]; omega)
    have hi2 := ptL_length _ _ hoi
    have hn := join_take_succ [32] (ptsL p) i (by rw [ptsL_length]; exact hi)
    rw [ptsL_get p i hi] at hn
    have next := l03Text_loop p hl hok d (i + 1) k (by omega) (by omega)
    have e32 : (⟨#[32]⟩ : ByteArray) = toB [32] := rfl
    rw [spec_l03Text.l0, if_pos (by omega), rdN, getP p i hi, spec_text _ _ hoi k (by omega), ptB_eq, Option.bind_some, Option.bind_some, e32, toB_append, toB_append, toB_size, toB_size, toB_size, w64 (by omega) (by omega), show (i : Int) + 1 = ((i + 1 : Nat) : Int) by omega]
    by_cases h0 : i = 0
    · subst h0
      rw [if_pos rfl] at hn
      rw [hn] at next
      rw [if_neg (by omega), if_pos (by omega), toB_append, if_pos (by omega)]
      exact next
    · rw [if_neg h0] at hn
      rw [hn] at next
      rw [if_pos (by omega), if_pos (by omega), if_pos (by omega), if_pos (by rw [List.length_append, List.length_singleton]; omega)]
      exact next
theorem l03Text_eq (p : List S40) (hl : p.length ≤ 1000) (hok : ∀ s ∈ p, okP s.f0 s.f1 = true) (k : Nat) (hk : 1200 ≤ k) : spec_l03Text.f k p = some (toB (Lib.join (ptsL p) [32])) :=
  l03Text_loop p hl hok p.length 0 k (by omega) (by omega)

theorem implPoly_loop (p : List S40) (hl : p.length ≤ 1000) (hok : ∀ s ∈ p, okP s.f0 s.f1 = true) : ∀ (d i k : Nat), i + d = p.length → d < k →
    impl_PolygonText.l0 k (((ptsL p).map toB).take i) p (p.length : Int) i = some (toB (Lib.join (ptsL p) [32]))
  | d, i, 0, _, h => absurd h (Nat.not_lt_zero _)
  | 0, i, k + 1, h, _ => by
    rw [impl_PolygonText.l0, if_neg (by omega), List.take_of_length_le (by rw [List.length_map, ptsL_length]; omega), strings_join 32 43 _ (ptsL_small p hok) (by rw [ptsL_length]; omega) (by rw [ptsL_length]; omega)]
    rfl
  | d + 1, i, k + 1, h, hk => by
    have hi : i < p.length := by omega
    have hoi := hok p[i] (List.getElem_mem hi)
    have next := implPoly_loop p hl hok d (i + 1) k (by omega) (by omega)
    rw [List.take_add_one, List.getElem?_map, List.getElem?_eq_getElem (by rw [ptsL_length]; exact hi), ptsL_get p i hi] at next
    rw [impl_PolygonText.l0, if_pos (by omega), if_pos (by omega), if_pos (by omega), rdN, getP p i hi, impl_text, if_pos hoi, Option.bind_some, ptB_eq, if_pos (by rw [List.length_take]; omega), w64 (by omega) (by omega), show (i : Int) + 1 = ((i + 1 : Nat) : Int) by omega]
    exact next

theorem eqPoint_self (x y : Int) : laws_eqPoint.f x y x y = some true := by
  unfold laws_eqPoint.f
  rw [if_pos rfl, if_pos rfl]
theorem eqPointS_loop (l : List S40) (h : l.length ≤ 1000000000) : ∀ (d k i : Nat), l.length - i ≤ d → d < k → laws_eqPointS.l0 k l l i = some true
  | d, 0, i, _, h2 => absurd h2 (by omega)
  | d, k + 1, i, h1, h2 => by
    simp only [laws_eqPointS.l0]
    by_cases hi : i < l.length
    · rw [if_pos (by omega), if_pos (by omega), if_pos (by omega), eqPoint_self, Option.bind_some, if_pos rfl, w1 (by omega)]
      exact eqPointS_loop l h (d - 1) k (i + 1) (by omega) (by omega)
    · rw [if_neg (by omega)]
theorem eqPointS_self (l : List S40) (h : l.length ≤ 1000000000) (k : Nat) (hk : l.length < k) : laws_eqPointS.f k l l = some true := by
  unfold laws_eqPointS.f
  rw [if_pos rfl]
  exact eqPointS_loop l h l.length k 0 (by omega) hk

/-- The law's points as the program's. -/
def conv (l : List S38) : List S40 := l.map fun s => ⟨s.f0, s.f1⟩
theorem conv_length (l : List S38) : (conv l).length = l.length := by
  unfold conv
  rw [List.length_map]
theorem sz_small (l : List S38) (h : l.length ≤ 1048576) : laws_szPointS.f l 1048576 = some (1048576 - (l.length : Int)) := by
  unfold laws_szPointS.f
  rw [w64 (by omega) (by omega), if_neg (by omega)]
theorem sz_large (l : List S38) (hm : l.length ≤ 9223372036854775807) (h : 1048576 < l.length) : laws_szPointS.f l 1048576 = some (-1) := by
  unfold laws_szPointS.f
  rw [w64 (by omega) (by omega), if_pos (by omega)]
theorem rdLN (l : List S38) (j : Nat) : rd_T38 l (j : Int) = l.getD j z38 := by
  unfold rd_T38
  rw [Int.toNat_natCast]
theorem toPointS_loop (l : List S38) (h : l.length ≤ 1048576) : ∀ (d k i : Nat) (x : List S40), i ≤ l.length → l.length - i ≤ d → d < k → x.length = l.length → laws_toPointS.l0 k l x i = some (x.take i ++ (conv l).drop i)
  | d, 0, i, x, _, _, h2, _ => absurd h2 (by omega)
  | d, k + 1, i, x, h0, h1, h2, hx => by
    simp only [laws_toPointS.l0, laws_toPoint.f]
    by_cases hi : i < l.length
    · rw [if_pos (by omega), if_pos (by omega), Option.bind_some, if_pos (by omega), w1 (by omega), toPointS_loop l h (d - 1) k (i + 1) _ (by omega) (by omega) (by omega) (by rw [List.length_set, hx]), rdLN]
      have e : l.getD i z38 = l[i] := by
        rw [List.getD_eq_getElem?_getD, List.getElem?_eq_getElem hi]
        rfl
      rw [e, Int.toNat_natCast, List.take_succ_eq_append_getElem (by rw [List.length_set, hx]; exact hi), List.getElem_set_self, List.take_set_of_le (Nat.le_refl _), List.append_assoc]
      congr 2
      rw [List.drop_eq_getElem_cons (i := i) (by rw [conv_length]; exact hi)]
      unfold conv
      rw [List.getElem_map]
      rfl
    · rw [if_neg (by omega), List.take_of_length_le (by omega), List.drop_eq_nil_of_le (by rw [conv_length]; omega), List.append_nil]
theorem toPointS_eq (l : List S38) (h : l.length ≤ 1048576) (k : Nat) (hk : l.length < k) : laws_toPointS.f k l = some (conv l) := by
  unfold laws_toPointS.f
  rw [if_pos (by omega), if_pos (by omega)]
  have := toPointS_loop l h l.length k 0 (List.replicate ((l.length : Int) : Int).toNat z40) (by omega) (by omega) hk (by rw [List.length_replicate, Int.toNat_natCast])
  simp only [Int.natCast_zero] at this
  rw [this, List.take_zero, List.nil_append, List.drop_zero]

theorem polyText_eq (p : List S40) (hl : p.length ≤ 1048576) : ∃ r : ByteArray, (∀ k, 2000 ≤ k → spec_PolygonText.f k p = some r) ∧ (∀ k, 2000 ≤ k → impl_PolygonText.f k p = some r) := by
  obtain ⟨b, h1, h2, hv⟩ := spec_valid_eq p hl
  cases b with
  | false =>
    refine ⟨toB [], fun k hk => ?_, fun k hk => ?_⟩
    · unfold spec_PolygonText.f
      rw [h1 k (by omega)]
      rfl
    · unfold impl_PolygonText.f
      rw [h2 k (by omega)]
      rfl
  | true =>
    have hV := hv.1 rfl
    have hn := hV.2.1
    have hok : ∀ s ∈ p, okP s.f0 s.f1 = true := fun s hs => List.all_eq_true.1 hV.2.2.1 s hs
    refine ⟨toB (Lib.join (ptsL p) [32]), fun k hk => ?_, fun k hk => ?_⟩
    · unfold spec_PolygonText.f
      rw [h1 k (by omega), Option.bind_some, if_pos rfl, l03Text_eq p (by omega) hok k (by omega)]
      rfl
    · unfold impl_PolygonText.f
      rw [h2 k (by omega), Option.bind_some, if_pos rfl]
      have := implPoly_loop p (by omega) hok p.length 0 k (by omega) (by omega)
      rw [List.take_zero] at this
      exact this
theorem FnExactPolygonText (l : List S38) (hl : l.length ≤ maxLen) (hg : ∀ x ∈ l, (Lit.int .i64 x.f0).wf = true ∧ (Lit.int .i64 x.f1).wf = true) : ∃ k, laws_FnExactPolygonText.f k l = some true := by
  unfold maxLen at hl
  by_cases hs : l.length ≤ 1048576
  · obtain ⟨r, h1, h2⟩ := polyText_eq (conv l) (by rw [conv_length]; exact hs)
    obtain ⟨B, hB⟩ : ∃ B : Nat, 2000000 ≤ B := ⟨_, Nat.le_refl _⟩
    refine ⟨B, ?_⟩
    unfold laws_FnExactPolygonText.f
    rw [sz_small l hs, Option.bind_some, if_neg (by omega), toPointS_eq l hs _ (by omega), Option.bind_some, h1 _ (by omega), Option.bind_some, Option.bind_some, h2 _ (by omega), Option.bind_some, if_pos rfl, Option.bind_some, eqPointS_self (conv l) (by rw [conv_length]; omega) _ (by rw [conv_length]; omega), Option.bind_some, if_pos rfl]
  · refine ⟨0, ?_⟩
    unfold laws_FnExactPolygonText.f
    rw [sz_large l hl (by omega)]
    rfl

end Go.Proofs.YtdegladckdnhiaaDoor.Pure
