/- The plain law: what FnExactReadPolygon computes is true at every input. -/
import Derived.Test.YtdegladckdnhiaaDoorLFnExactReadPolygonb
namespace Go.Proofs.YtdegladckdnhiaaDoor.Pure
open Go.RowKit Go.Proofs.YtdegladckdnhiaaDoor.PFnExactReadPolygon Go.Proofs.YtdegladckdnhiaaDoorW.PrintWords Go.Proofs.YtdegladckdnhiaaDoorW.PrintLast Go.Proofs.YtdegladckdnhiaaDoorW.PrintMore
set_option linter.unusedVariables false
set_option linter.unusedSimpArgs false

theorem bt_nat (s : ByteArray) (i : Nat) (h : i < s.data.toList.length) : bt s (i : Int) = ((s.data.toList[i]).toNat : Int) := by
  have h' : i < s.size := by rw [data_length] at h; exact h
  unfold bt
  rw [Int.toNat_natCast, dif_pos h']
  rfl
theorem size_list (s : ByteArray) : s.size = s.data.toList.length := (data_length s).symm
def toB (l : List UInt8) : ByteArray := ⟨l.toArray⟩
theorem data_toB (l : List UInt8) : (toB l).data.toList = l := rfl
theorem toB_data (s : ByteArray) : toB s.data.toList = s := rfl
theorem toB_inj {a b : List UInt8} (h : toB a = toB b) : a = b := by rw [← data_toB a, h, data_toB]
theorem map_toB : ∀ l : List ByteArray, (l.map (·.data.toList)).map toB = l
  | [] => rfl
  | s :: l => by rw [List.map_cons, List.map_cons, map_toB l]; rfl
theorem toList_toB (l : List UInt8) : (toB l).toList = l := by rw [ByteArray.toList_eq]; rfl
theorem toB_append (a b : List UInt8) : toB a ++ toB b = toB (a ++ b) := by
  apply ByteArray.ext
  rw [ByteArray.data_append]
  unfold toB
  simp
theorem toB_size (a : List UInt8) : (toB a).size = a.length := by rw [size_list, data_toB]

/-- The value of a row of digits. -/
def valOf (ds : List UInt8) : Nat := ds.foldl (fun n d => n * 10 + (d.toNat - 48)) 0
theorem head_append {l r : List UInt8} (h : l ≠ []) : (l ++ r).head? = l.head? := by
  cases l with
  | nil => exact absurd rfl h
  | cons x l => rfl
def isDig (d : UInt8) : Prop := 48 ≤ d.toNat ∧ d.toNat ≤ 57
theorem valOf_snoc (l : List UInt8) (d : UInt8) : valOf (l ++ [d]) = valOf l * 10 + (d.toNat - 48) := by simp [valOf, List.foldl_append]
theorem decDigits_snoc (n d : Nat) (hn : 1 ≤ n) (hd : d < 10) : Lib.decDigits (n * 10 + d) = Lib.decDigits n ++ [UInt8.ofNat (48 + d)] := by
  rw [Lib.decDigits, dif_neg (by omega), show (n * 10 + d) / 10 = n by omega, show (n * 10 + d) % 10 = d by omega]
theorem decDigits_zero : Lib.decDigits 0 = [48] := by rw [Lib.decDigits, dif_pos (by omega)]; rfl
theorem decDigits_ne (u : Nat) : Lib.decDigits u ≠ [] := by
  rw [Lib.decDigits]
  split <;> simp
theorem decDigits_head (u : Nat) (hu : 1 ≤ u) : (Lib.decDigits u).head? ≠ some 48 := by
  induction u using Nat.strongRecOn with
  | _ u ih =>
    rw [Lib.decDigits]
    split
    · rename_i h
      intro e
      simp only [List.head?_cons, Option.some.injEq] at e
      have e2 := congrArg UInt8.toNat e
      rw [UInt8.toNat_ofNat'] at e2
      have e3 : (48 : UInt8).toNat = 48 := rfl
      rw [e3] at e2
      omega
    · have := ih (u / 10) (by omega) (by omega)
      rw [head_append (decDigits_ne _)]
      exact this
theorem canon_digits : ∀ (ds : List UInt8), ds ≠ [] → (∀ d ∈ ds, isDig d) → (ds.head? ≠ some 48 ∨ ds.length = 1) → Lib.decDigits (valOf ds) = ds := by
  intro ds
  induction hn : ds.length generalizing ds with
  | zero => intro h; exact absurd (List.length_eq_zero_iff.1 hn) h
  | succ n ih =>
    intro hne hd hh
    obtain ⟨l, d, rfl⟩ : ∃ l d, ds = l ++ [d] := ⟨ds.dropLast, ds.getLast hne, (List.dropLast_concat_getLast hne).symm⟩
    have hdd := hd d (by simp)
    unfold isDig at hdd
    have hb : UInt8.ofNat (48 + (d.toNat - 48)) = d := by
      rw [show 48 + (d.toNat - 48) = d.toNat by omega]
      simp
    rw [valOf_snoc]
    by_cases hl : l = []
    · subst hl
      rw [show valOf [] = 0 from rfl, Nat.zero_mul, Nat.zero_add, Lib.decDigits, dif_pos (by omega), hb]
      rfl
    · have hh' : l.head? ≠ some 48 := by
        rcases hh with hh | hh
        · rwa [head_append hl] at hh
        · have : l.length = 0 := by rw [List.length_append, List.length_singleton] at hn; omega
          exact absurd (List.length_eq_zero_iff.1 this) hl
      have hl' := ih l (by simp at hn; omega) hl (fun d h => hd d (by simp [h])) (.inl hh')
      have hv : 1 ≤ valOf l := by
        rcases Nat.eq_zero_or_pos (valOf l) with h | h
        · rw [h, decDigits_zero] at hl'
          rw [← hl'] at hh'
          exact absurd rfl hh'
        · exact h
      rw [decDigits_snoc _ _ hv (by omega), hl', hb]
theorem valOf_pos {ds : List UInt8} (hne : ds ≠ []) (hd : ∀ d ∈ ds, isDig d) (hh : ds.head? ≠ some 48) : 1 ≤ valOf ds := by
  have := canon_digits ds hne hd (.inl hh)
  rcases Nat.eq_zero_or_pos (valOf ds) with h | h
  · rw [h, decDigits_zero] at this
    rw [← this] at hh
    exact absurd rfl hh
  · exact h
theorem valOf_lt : ∀ (ds : List UInt8), (∀ d ∈ ds, isDig d) → valOf ds < 10 ^ ds.length := by
  intro ds
  induction hn : ds.length generalizing ds with
  | zero => intro _; have := List.length_eq_zero_iff.1 hn; subst this; decide
  | succ n ih =>
    intro hd
    have hne : ds ≠ [] := by rintro rfl; simp at hn
    obtain ⟨l, d, rfl⟩ : ∃ l d, ds = l ++ [d] := ⟨ds.dropLast, ds.getLast hne, (List.dropLast_concat_getLast hne).symm⟩
    have := ih l (by simp at hn; omega) (fun d h => hd d (by simp [h]))
    have hdd := hd d (by simp)
    unfold isDig at hdd
    rw [valOf_snoc, Nat.pow_succ]
    omega
/-- THE DECIMAL TEXT: which texts are some number's numeral. -/
theorem itoa_pos (ds : List UInt8) (hne : ds ≠ []) (hd : ∀ d ∈ ds, isDig d) : Lib.itoa (valOf ds : Int) = ds ↔ (ds.head? ≠ some 48 ∨ ds.length = 1) := by
  rw [Lib.itoa_nonneg]
  refine ⟨fun h => ?_, canon_digits ds hne hd⟩
  by_cases h0 : ds.head? = some 48
  · right
    by_cases hv : valOf ds = 0
    · rw [hv, decDigits_zero] at h
      rw [← h]
      rfl
    · exact absurd (by rw [h]; exact h0) (decDigits_head (valOf ds) (by omega))
  · exact .inl h0
theorem itoa_minus (ds : List UInt8) (hne : ds ≠ []) (hd : ∀ d ∈ ds, isDig d) : Lib.itoa (-(valOf ds : Int)) = 45 :: ds ↔ ds.head? ≠ some 48 := by
  by_cases hv : valOf ds = 0
  · rw [hv]
    have e : Lib.itoa (-((0 : Nat) : Int)) = [48] := by
      have := Lib.itoa_nonneg 0
      rw [decDigits_zero] at this
      exact this
    rw [e]
    refine ⟨fun h => by simp at h, fun h => ?_⟩
    have := valOf_pos hne hd h
    omega
  · rw [Lib.itoa_neg _ (by omega), List.cons.injEq]
    refine ⟨fun h h0 => decDigits_head (valOf ds) (by omega) (by rw [h.2]; exact h0), fun h => ⟨rfl, canon_digits ds hne hd (.inl h)⟩⟩

theorem impl_dec (v : Int) (h0 : -9223372036854775808 ≤ v) (h1 : v ≤ 9223372036854775807) : impl_Decimal.f v = some (toB (Lib.itoa v)) := by
  unfold impl_Decimal.f strconv_FormatInt_75.f
  rw [if_pos rfl, if_pos h0, if_pos h1]
  rfl

def digs (l : List UInt8) : Bool := l.all fun d => decide (48 ≤ d.toNat) && decide (d.toNat ≤ 57)
theorem digs_iff (l : List UInt8) : digs l = true ↔ ∀ d ∈ l, isDig d := by
  unfold digs isDig
  rw [List.all_eq_true]
  refine ⟨fun h d hd => ?_, fun h d hd => ?_⟩
  · have := h d hd
    rw [Bool.and_eq_true, decide_eq_true_eq, decide_eq_true_eq] at this
    exact this
  · have := h d hd
    rw [Bool.and_eq_true, decide_eq_true_eq, decide_eq_true_eq]
    exact this
theorem digs_cons (d : UInt8) (l : List UInt8) : digs (d :: l) = (decide (48 ≤ d.toNat) && decide (d.toNat ≤ 57) && digs l) := rfl
def valFrom (n : Nat) (l : List UInt8) : Nat := l.foldl (fun n d => n * 10 + (d.toNat - 48)) n
theorem valFrom_cons (n : Nat) (d : UInt8) (l : List UInt8) : valFrom n (d :: l) = valFrom (n * 10 + (d.toNat - 48)) l := by
  unfold valFrom
  rw [List.foldl_cons]
theorem num_step (C n d m : Nat) (h : (n + 1) * 10 ^ (m + 1) ≤ C) (hd : d ≤ 9) : (n * 10 + d + 1) * 10 ^ m ≤ C ∧ n * 10 + d < C := by
  rw [Nat.pow_succ] at h
  have h1 : (n * 10 + d + 1) * 10 ^ m ≤ (n + 1) * (10 ^ m * 10) := by
    have : (n + 1) * (10 ^ m * 10) = ((n + 1) * 10) * 10 ^ m := by
      rw [Nat.mul_comm (10 ^ m) 10, ← Nat.mul_assoc]
    rw [this]
    exact Nat.mul_le_mul_right _ (by omega)
  have h2 : n * 10 + d + 1 ≤ (n * 10 + d + 1) * 10 ^ m := Nat.le_mul_of_pos_right _ (Nat.pow_pos (by omega))
  omega
theorem digit_eq (d : UInt8) : spec_l01Digit.f ((d.toNat : Nat) : Int) = some (decide (48 ≤ d.toNat) && decide (d.toNat ≤ 57)) := by
  unfold spec_l01Digit.f
  by_cases h : 48 ≤ d.toNat
  · rw [if_pos (by omega)]
    by_cases h2 : d.toNat ≤ 57
    · rw [decide_eq_true h, decide_eq_true h2, decide_eq_true (by omega)]; rfl
    · rw [decide_eq_true h, decide_eq_false h2, decide_eq_false (by omega)]; rfl
  · rw [if_neg (by omega), decide_eq_false h]; rfl
/-- What the digits of a text end in. -/
def numEnd (a : Int) (n : Nat) (l : List UInt8) : Int × Bool := if digs l = true then (if a = 1 then (-((valFrom n l : Nat) : Int), true) else (((valFrom n l : Nat) : Int), true)) else (0, false)
theorem spec_num_loop (C : Nat) (hC : C = 1000000000000000000) (s : ByteArray) (a : Int) (hl : s.data.toList.length ≤ 1000) : ∀ (d i n k : Nat), i + d = s.data.toList.length → d < k → (n + 1) * 10 ^ d ≤ C →
    spec_l01Number.l0 k s a n i = some (numEnd a n (s.data.toList.drop i))
  | d, i, n, 0, _, h, _ => absurd h (Nat.not_lt_zero _)
  | 0, i, n, k + 1, h, _, hn => by
    rw [spec_l01Number.l0, size_list, if_neg (by omega), List.drop_eq_nil_of_le (by omega)]
    have hn' : n < C := by rw [Nat.pow_zero, Nat.mul_one] at hn; omega
    rw [w64 (by omega) (by omega)]
    unfold numEnd
    rw [if_pos (show digs [] = true from rfl)]
    by_cases ha : a = 1
    · rw [if_pos ha, if_pos ha]; rfl
    · rw [if_neg ha, if_neg ha]; rfl
  | d + 1, i, n, k + 1, h, hk, hn => by
    have hi : i < s.data.toList.length := by omega
    rw [spec_l01Number.l0, size_list, if_pos (by omega), if_pos (by omega), bt_nat s i hi, digit_eq, Option.bind_some, List.drop_eq_getElem_cons hi]
    unfold numEnd
    rw [digs_cons]
    by_cases hd : (decide (48 ≤ (s.data.toList[i]).toNat) && decide ((s.data.toList[i]).toNat ≤ 57)) = true
    · have hd' : 48 ≤ (s.data.toList[i]).toNat ∧ (s.data.toList[i]).toNat ≤ 57 := by simpa using hd
      obtain ⟨q1, q2⟩ := num_step C n ((s.data.toList[i]).toNat - 48) d hn (by omega)
      have e1 : wrap64 (wrap64 (10 * (n : Int)) + (((s.data.toList[i]).toNat : Int) - 48) % 256) = ((n * 10 + ((s.data.toList[i]).toNat - 48) : Nat) : Int) := by
        rw [w64 (x := 10 * (n : Int)) (by omega) (by omega), w64 (by omega) (by omega)]
        omega
      have e2 : wrap64 ((i : Int) + 1) = ((i + 1 : Nat) : Int) := by rw [w64 (by omega) (by omega)]; omega
      rw [if_pos hd, e1, e2, spec_num_loop C hC s a hl d (i + 1) _ k (by omega) (by omega) q1, valFrom_cons, hd, Bool.true_and]
      rfl
    · rw [if_neg hd]
      have hd' : (decide (48 ≤ (s.data.toList[i]).toNat) && decide ((s.data.toList[i]).toNat ≤ 57)) = false := by simpa using hd
      rw [hd', Bool.false_and]
      rfl
/-- What the program's digits end in. -/
def backEnd (x0 : ByteArray) (l : Nat) (v : Nat) : Int × Bool :=
  if l < x0.data.toList.length then (if Lib.itoa (-(v : Int)) = x0.data.toList then (-(v : Int), true) else (0, false)) else (if Lib.itoa (v : Int) = x0.data.toList then ((v : Int), true) else (0, false))
theorem impl_num_loop (C : Nat) (hC : C = 1000000000000000000) (x0 s : ByteArray) (hl : s.data.toList.length ≤ 1000) : ∀ (d i n k : Nat), i + d = s.data.toList.length → d < k → (n + 1) * 10 ^ d ≤ C →
    impl_ReadDecimal.l0 k x0 s n i = some (if digs (s.data.toList.drop i) = true then backEnd x0 s.data.toList.length (valFrom n (s.data.toList.drop i)) else (0, false))
  | d, i, n, 0, _, h, _ => absurd h (Nat.not_lt_zero _)
  | 0, i, n, k + 1, h, _, hn => by
    rw [impl_ReadDecimal.l0, size_list, size_list, if_neg (by omega), List.drop_eq_nil_of_le (by omega)]
    have hn' : n < C := by rw [Nat.pow_zero, Nat.mul_one] at hn; omega
    rw [w64 (x := -(n : Int)) (by omega) (by omega), impl_dec _ (by omega) (by omega), impl_dec _ (by omega) (by omega)]
    simp only [Option.bind_some, ByteArray.toList_eq, data_toB]
    rw [if_pos (show digs [] = true from rfl), show valFrom n [] = n from rfl]
    unfold backEnd
    by_cases hc : s.data.toList.length < x0.data.toList.length
    · rw [if_pos (by omega), if_pos hc]
      by_cases q : Lib.itoa (-(n : Int)) = x0.data.toList
      · rw [if_pos q]
        exact if_pos q
      · rw [if_neg q]
        exact if_neg q
    · rw [if_neg (by omega), if_neg hc]
      by_cases q : Lib.itoa (n : Int) = x0.data.toList
      · rw [if_pos q]
        exact if_pos q
      · rw [if_neg q]
        exact if_neg q
  | d + 1, i, n, k + 1, h, hk, hn => by
    have hi : i < s.data.toList.length := by omega
    rw [impl_ReadDecimal.l0, size_list s, if_pos (by omega), if_pos (by omega), bt_nat s i hi, List.drop_eq_getElem_cons hi, digs_cons]
    by_cases h1 : ((s.data.toList[i]).toNat : Int) < 48
    · rw [if_pos h1, decide_eq_false (show ¬ 48 ≤ (s.data.toList[i]).toNat by omega), Bool.false_and, Bool.false_and]
      rfl
    · rw [if_neg h1, decide_eq_true (show 48 ≤ (s.data.toList[i]).toNat by omega), Bool.true_and]
      by_cases h2 : ((s.data.toList[i]).toNat : Int) > 57
      · rw [if_pos h2, decide_eq_false (show ¬ (s.data.toList[i]).toNat ≤ 57 by omega), Bool.false_and]
        rfl
      · rw [if_neg h2, decide_eq_true (show (s.data.toList[i]).toNat ≤ 57 by omega), Bool.true_and]
        obtain ⟨q1, q2⟩ := num_step C n ((s.data.toList[i]).toNat - 48) d hn (by omega)
        have e1 : wrap64 (wrap64 ((n : Int) * 10) + (((s.data.toList[i]).toNat : Int) - 48) % 256) = ((n * 10 + ((s.data.toList[i]).toNat - 48) : Nat) : Int) := by
          rw [w64 (x := (n : Int) * 10) (by omega) (by omega), w64 (by omega) (by omega)]
          omega
        have e2 : wrap64 ((i : Int) + 1) = ((i + 1 : Nat) : Int) := by rw [w64 (by omega) (by omega)]; omega
        rw [e1, e2, impl_num_loop C hC x0 s hl d (i + 1) _ k (by omega) (by omega) q1, valFrom_cons]
/-- The number of a text. -/
def numOf (s : ByteArray) : Int × Bool :=
  let L := s.data.toList
  if L.head? = some 45 then (if L.length ≤ 1 ∨ 19 < L.length ∨ L[1]? = some 48 then (0, false) else (if digs (L.drop 1) = true then (-((valOf (L.drop 1) : Nat) : Int), true) else (0, false)))
  else (if L.length = 0 ∨ 18 < L.length ∨ (L.head? = some 48 ∧ 1 < L.length) then (0, false) else (if digs L = true then (((valOf L : Nat) : Int), true) else (0, false)))
theorem numEnd_one (l : List UInt8) : numEnd 1 0 l = if digs l = true then (-((valOf l : Nat) : Int), true) else (0, false) := by
  unfold numEnd
  rw [if_pos rfl]
  rfl
theorem numEnd_zero (l : List UInt8) : numEnd 0 0 l = if digs l = true then (((valOf l : Nat) : Int), true) else (0, false) := by
  unfold numEnd
  rw [if_neg (show ¬ (0 : Int) = 1 by omega)]
  rfl
theorem pow_le {C d : Nat} (hC : C = 1000000000000000000) (h : d ≤ 18) : ((0 : Nat) + 1) * 10 ^ d ≤ C := by
  have : 10 ^ d ≤ 10 ^ 18 := Nat.pow_le_pow_right (by omega) h
  have e : (10 : Nat) ^ 18 = C := by rw [hC]
  omega
theorem u8_toNat (d : UInt8) (n : UInt8) : ((d.toNat : Nat) : Int) = ((n.toNat : Nat) : Int) ↔ d = n := by
  refine ⟨fun h => ?_, fun h => by rw [h]⟩
  have : d.toNat = n.toNat := by omega
  exact UInt8.toNat_inj.1 this
theorem spec_num_tail (s : ByteArray) (hs : s.size ≤ 1000000000000) (k : Nat) (hk : 27 ≤ k) (a : Nat) (ha : a ≤ s.data.toList.length) (ha1 : a ≤ 1) :
    spec_l01Number.j1 (k + 2) s (a : Int) = some (if s.data.toList.length = a ∨ 18 < s.data.toList.length - a ∨ (s.data.toList[a]? = some 48 ∧ 1 < s.data.toList.length) then (0, false) else numEnd a 0 (s.data.toList.drop a)) := by
  obtain ⟨C, hC⟩ : ∃ C : Nat, C = 1000000000000000000 := ⟨_, rfl⟩
  have hsz := size_list s
  rw [spec_l01Number.j1, hsz]
  have yes : spec_l01Number.j2 (k + 1) s (a : Int) true = some (0, false) := by rw [spec_l01Number.j2, if_pos rfl]
  by_cases c1 : s.data.toList.length = a
  · rw [if_pos (by omega), yes, if_pos (.inl c1)]
  · rw [if_neg (by omega), w64 (by omega) (by omega)]
    by_cases c2 : 18 < s.data.toList.length - a
    · rw [if_pos (by omega), yes, if_pos (.inr (.inl c2))]
    · have hlt : a < s.data.toList.length := by omega
      have no : spec_l01Number.j2 (k + 1) s (a : Int) false = some (numEnd a 0 (s.data.toList.drop a)) := by
        rw [spec_l01Number.j2, if_neg (by decide)]
        exact spec_num_loop C hC s (a : Int) (by omega) (s.data.toList.length - a) a 0 k (by omega) (by omega) (pow_le hC (by omega))
      rw [if_neg (by omega), if_pos (by omega), if_pos (by omega), bt_nat s a hlt]
      have e48 : ((s.data.toList[a]).toNat : Int) = 48 ↔ s.data.toList[a]? = some 48 := by
        rw [List.getElem?_eq_getElem hlt, Option.some.injEq]
        exact u8_toNat _ 48
      by_cases c3 : ((s.data.toList[a]).toNat : Int) = 48
      · rw [if_pos c3]
        by_cases c4 : 1 < s.data.toList.length
        · rw [decide_eq_true (by omega), yes, if_pos (.inr (.inr ⟨e48.1 c3, c4⟩))]
        · rw [decide_eq_false (by omega), no, if_neg (by intro h; rcases h with h | h | h; exact c1 h; exact c2 h; exact c4 h.2)]
      · rw [if_neg c3, no, if_neg (by intro h; rcases h with h | h | h; exact c1 h; exact c2 h; exact c3 (e48.2 h.1))]
theorem spec_num_sign (s : ByteArray) (k : Nat) (neg : Bool) : spec_l01Number.j0 (k + 3) s 0 neg = spec_l01Number.j1 (k + 2) s (if neg = true then 1 else 0) := by
  rw [spec_l01Number.j0]
  cases neg
  · rw [if_neg (by decide), if_neg (by decide)]
  · rw [if_pos rfl, if_pos rfl]
theorem spec_num (s : ByteArray) (hs : s.size ≤ 1000000000000) (k : Nat) (hk : 30 ≤ k) : spec_l01Number.f k s = some (numOf s) := by
  obtain ⟨k, rfl⟩ : ∃ m, k = m + 3 := ⟨k - 3, by omega⟩
  have hsz := size_list s
  unfold spec_l01Number.f
  have sign := fun (neg : Bool) => spec_num_sign s k neg
  have tail := spec_num_tail s hs k (by omega)
  by_cases h0 : s.data.toList.length = 0
  · have e : s.data.toList = [] := List.length_eq_zero_iff.1 h0
    rw [if_neg (by omega), sign false]
    have := tail 0 (by omega) (by omega)
    rw [if_pos (.inl h0)] at this
    refine this.trans ?_
    unfold numOf
    rw [e]
    rfl
  · have hlt : 0 < s.data.toList.length := by omega
    have hh : s.data.toList.head? = some s.data.toList[0] := by rw [List.head?_eq_getElem?, List.getElem?_eq_getElem hlt]
    rw [if_pos (by omega), if_pos (by omega), sign]
    have hb : bt s 0 = ((s.data.toList[0]).toNat : Int) := bt_nat s 0 hlt
    unfold numOf
    by_cases hm : s.data.toList.head? = some 45
    · have h45 : bt s 0 = 45 := by
        rw [hb]
        rw [hh, Option.some.injEq] at hm
        rw [hm]
        rfl
      rw [h45]
      have := tail 1 (by omega) (by omega)
      refine this.trans ?_
      simp only [hm, if_true]
      congr 1
      by_cases c : s.data.toList.length ≤ 1 ∨ 19 < s.data.toList.length ∨ s.data.toList[1]? = some 48
      · rw [if_pos c, if_pos]
        rcases c with c | c | c
        · exact .inl (by omega)
        · exact .inr (.inl (by omega))
        · refine .inr (.inr ⟨c, ?_⟩)
          have := (List.getElem?_eq_some_iff.1 c).1
          omega
      · rw [if_neg c, if_neg, show ((1 : Nat) : Int) = 1 from rfl, numEnd_one]
        intro h
        refine c ?_
        rcases h with h | h | h
        · exact .inl (by omega)
        · exact .inr (.inl (by omega))
        · exact .inr (.inr h.1)
    · have h45 : (bt s 0 == 45) = false := by
        rw [hb, beq_eq_false_iff_ne]
        intro h
        refine hm ?_
        rw [hh]
        congr 1
        exact (u8_toNat _ 45).1 h
      rw [h45]
      have := tail 0 (by omega) (by omega)
      refine this.trans ?_
      rw [if_neg hm]
      congr 1
      have e0 : s.data.toList[0]? = s.data.toList.head? := by rw [List.head?_eq_getElem?]
      rw [e0, Nat.sub_zero, show ((0 : Nat) : Int) = 0 from rfl, numEnd_zero, List.drop_zero]
theorem extract_one (s : ByteArray) : (s.extract 1 s.size).data.toList = s.data.toList.drop 1 := Lib.extract_to_end s 1
theorem impl_num (s : ByteArray) (hs : s.size ≤ 1000000000000) (k : Nat) (hk : 30 ≤ k) : impl_ReadDecimal.f k s = some (numOf s) := by
  obtain ⟨k, rfl⟩ : ∃ m, k = m + 3 := ⟨k - 3, by omega⟩
  obtain ⟨C, hC⟩ : ∃ C : Nat, C = 1000000000000000000 := ⟨_, rfl⟩
  have hsz := size_list s
  -- the digits behind the sign
  have main : ∀ d : ByteArray, d.size ≤ 1000000000000 → impl_ReadDecimal.j0 (k + 3) s d = some (if d.data.toList.length = 0 ∨ 18 < d.data.toList.length then (0, false) else if digs d.data.toList = true then backEnd s d.data.toList.length (valOf d.data.toList) else (0, false)) := by
    intro d hd
    have hdz := size_list d
    have yes : impl_ReadDecimal.j1 (k + 2) s d true = some (0, false) := by rw [impl_ReadDecimal.j1, if_pos rfl]
    rw [impl_ReadDecimal.j0, hdz]
    by_cases c1 : d.data.toList.length = 0
    · rw [if_pos (by omega), yes, if_pos (.inl c1)]
    · rw [if_neg (by omega)]
      by_cases c2 : 18 < d.data.toList.length
      · rw [decide_eq_true (by omega), yes, if_pos (.inr c2)]
      · rw [decide_eq_false (by omega), if_neg (by omega), impl_ReadDecimal.j1, if_neg (by decide)]
        have := impl_num_loop C hC s d (by omega) d.data.toList.length 0 0 (k + 1) (by omega) (by omega) (pow_le hC (by omega))
        rw [List.drop_zero] at this
        exact this
  have pre : strings_HasPrefix.f s (⟨#[45]⟩ : ByteArray) = some (decide (s.data.toList.head? = some 45)) := by
    unfold strings_HasPrefix.f stringslite_HasPrefix.f
    have e1 : ((⟨#[45]⟩ : ByteArray).size : Int) = 1 := rfl
    rw [e1]
    by_cases h0 : s.data.toList.length = 0
    · have e : s.data.toList = [] := List.length_eq_zero_iff.1 h0
      rw [if_neg (by omega), e]
      rfl
    · rw [if_pos (by omega), if_pos (by omega), if_pos (by omega), Option.bind_some]
      congr 1
      simp only [ByteArray.toList_eq]
      have e2 : (s.extract 0 ((1 : Int)).toNat).data.toList = s.data.toList.take 1 := Lib.extract_from_zero s 1
      rw [e2]
      cases hL : s.data.toList with
      | nil => rw [hL] at h0; exact absurd rfl h0
      | cons x l => by_cases hx : x = 45 <;> simp [hx]
  unfold impl_ReadDecimal.f
  rw [pre, Option.bind_some]
  unfold numOf
  by_cases hm : s.data.toList.head? = some 45
  · obtain ⟨l, hL⟩ : ∃ l, s.data.toList = 45 :: l := by
      cases hL : s.data.toList with
      | nil => rw [hL] at hm; cases hm
      | cons x l => rw [hL] at hm; simp at hm; exact ⟨l, by rw [hm]⟩
    have hd := main (s.extract 1 s.size) (by rw [size_list, extract_one, List.length_drop]; omega)
    rw [extract_one] at hd
    rw [decide_eq_true hm, if_pos rfl, if_pos (by rw [hsz, hL]; simp; omega), hd]
    simp only [hm, if_true]
    congr 1
    rw [hL]
    simp only [List.drop_succ_cons, List.drop_zero, List.length_cons, List.getElem?_cons_succ]
    by_cases c1 : l.length = 0 ∨ 18 < l.length
    · rw [if_pos c1, if_pos (by rcases c1 with c | c; exact .inl (by omega); exact .inr (.inl (by omega)))]
    · rw [if_neg c1]
      by_cases hdg : digs l = true
      · have hne : l ≠ [] := by rintro rfl; exact c1 (.inl rfl)
        have hi := itoa_minus l hne ((digs_iff l).1 hdg)
        unfold backEnd
        rw [hL, if_pos hdg, if_pos (by simp), hdg]
        simp only [if_true]
        have eh : l.head? = l[0]? := by rw [List.head?_eq_getElem?]
        by_cases h48 : l.head? = some 48
        · rw [if_neg (by rw [hi]; exact fun h => h h48), if_pos (.inr (.inr (by rw [← eh]; exact h48)))]
        · rw [if_pos (hi.2 h48), if_neg]
          intro h
          rcases h with h | h | h
          · exact c1 (.inl (by omega))
          · exact c1 (.inr (by omega))
          · exact h48 (by rw [eh]; exact h)
      · rw [if_neg hdg, if_neg hdg]
        split <;> rfl
  · have hd := main s hs
    rw [decide_eq_false hm, if_neg (by decide), hd, if_neg hm]
    congr 1
    by_cases c1 : s.data.toList.length = 0 ∨ 18 < s.data.toList.length
    · rw [if_pos c1, if_pos (by rcases c1 with c | c; exact .inl c; exact .inr (.inl c))]
    · rw [if_neg c1]
      by_cases hdg : digs s.data.toList = true
      · have hne : s.data.toList ≠ [] := by intro h; exact c1 (.inl (by rw [h]; rfl))
        have hi := itoa_pos s.data.toList hne ((digs_iff _).1 hdg)
        unfold backEnd
        rw [if_pos hdg, if_neg (Nat.lt_irrefl _), hdg]
        simp only [if_true]
        by_cases h48 : s.data.toList.head? = some 48 ∧ 1 < s.data.toList.length
        · rw [if_neg (by rw [hi]; rintro (h | h); exact h h48.1; omega), if_pos (.inr (.inr h48))]
        · rw [if_pos (hi.2 (by
            by_cases q : s.data.toList.head? = some 48
            · right
              have : ¬ 1 < s.data.toList.length := fun h => h48 ⟨q, h⟩
              omega
            · exact .inl q)), if_neg]
          intro h
          rcases h with h | h | h
          · exact c1 (.inl h)
          · exact c1 (.inr h)
          · exact h48 h
      · rw [if_neg hdg, if_neg hdg]
        split <;> rfl

/-- The number of a row of bytes. -/
def numL (l : List UInt8) : Int × Bool := numOf (toB l)
theorem numL_def (l : List UInt8) : numL l = if l.head? = some 45 then (if l.length ≤ 1 ∨ 19 < l.length ∨ l[1]? = some 48 then (0, false) else (if digs (l.drop 1) = true then (-((valOf (l.drop 1) : Nat) : Int), true) else (0, false)))
  else (if l.length = 0 ∨ 18 < l.length ∨ (l.head? = some 48 ∧ 1 < l.length) then (0, false) else (if digs l = true then (((valOf l : Nat) : Int), true) else (0, false))) := rfl
theorem digs_bad {l : List UInt8} {c : UInt8} (h : c ∈ l) (hc : c.toNat < 48) : digs l = false := by
  rw [Bool.eq_false_iff]
  intro h2
  have := (digs_iff l).1 h2 c h
  unfold isDig at this
  omega
/-- A text with a comma is no number. -/
theorem numL_comma {l : List UInt8} {c : UInt8} (h : c ∈ l) (hc : c.toNat < 48) (hc2 : c ≠ 45) : numL l = (0, false) := by
  rw [numL_def]
  by_cases h1 : l.head? = some 45
  · rw [if_pos h1]
    have hd : c ∈ l.drop 1 := by
      cases l with
      | nil => cases h
      | cons x l =>
        simp at h1
        rcases List.mem_cons.1 h with e | e
        · rw [e] at hc2; exact absurd h1 hc2
        · exact e
    rw [digs_bad hd hc]
    simp
  · rw [if_neg h1, digs_bad h hc]
    simp
theorem numOf_range (s : ByteArray) : -1000000000000000000 < (numOf s).1 ∧ (numOf s).1 < 1000000000000000000 := by
  have key : ∀ l : List UInt8, l.length ≤ 18 → digs l = true → ((valOf l : Nat) : Int) < 1000000000000000000 := by
    intro l hl hd
    have h := valOf_lt l ((digs_iff l).1 hd)
    have h2 : 10 ^ l.length ≤ 10 ^ 18 := Nat.pow_le_pow_right (by omega) hl
    have h3 : (10 : Nat) ^ 18 = 1000000000000000000 := by decide
    omega
  unfold numOf
  dsimp only
  split
  · split
    · exact ⟨by decide, by decide⟩
    · rename_i h
      split
      · rename_i hd
        have := key (s.data.toList.drop 1) (by rw [List.length_drop]; omega) hd
        constructor
        · show _ < -((valOf (s.data.toList.drop 1) : Nat) : Int)
          omega
        · show -((valOf (s.data.toList.drop 1) : Nat) : Int) < _
          omega
      · exact ⟨by decide, by decide⟩
  · split
    · exact ⟨by decide, by decide⟩
    · rename_i h
      split
      · rename_i hd
        have := key s.data.toList (by omega) hd
        constructor
        · show _ < ((valOf s.data.toList : Nat) : Int)
          omega
        · exact this
      · exact ⟨by decide, by decide⟩

/-- A text cut at each byte c. -/
def cutAll (c : UInt8) : List UInt8 → List (List UInt8)
  | [] => [[]]
  | x :: l => if x = c then [] :: cutAll c l else match cutAll c l with
    | [] => [[x]]
    | y :: r => (x :: y) :: r
/-- p put ahead of the first piece. -/
def glue (p : List UInt8) : List (List UInt8) → List (List UInt8)
  | [] => [p]
  | y :: r => (p ++ y) :: r
theorem cutAll_cons (c x : UInt8) (l : List UInt8) : cutAll c (x :: l) = if x = c then [] :: cutAll c l else glue [x] (cutAll c l) := by
  rw [cutAll]
  split
  · rfl
  · cases cutAll c l <;> rfl
theorem cutAll_ne (c : UInt8) : ∀ l : List UInt8, cutAll c l ≠ []
  | [] => by simp [cutAll]
  | x :: l => by
    rw [cutAll_cons]
    split
    · simp
    · cases cutAll c l <;> simp [glue]
theorem glue_glue (p q : List UInt8) (r : List (List UInt8)) (h : r ≠ []) : glue p (glue q r) = glue (p ++ q) r := by
  cases r with
  | nil => exact absurd rfl h
  | cons y r => simp [glue]
theorem glue_nil (r : List (List UInt8)) (h : r ≠ []) : glue [] r = r := by
  cases r with
  | nil => exact absurd rfl h
  | cons y r => rfl
theorem cutAll_index (c : UInt8) : ∀ l : List UInt8, (Lib.indexByte l c = -1 → cutAll c l = [l]) ∧ (∀ i : Nat, Lib.indexByte l c = i → cutAll c l = l.take i :: cutAll c (l.drop (i + 1)))
  | [] => ⟨fun _ => rfl, fun i h => by simp [Lib.indexByte] at h⟩
  | x :: l => by
    obtain ⟨h1, h2⟩ := cutAll_index c l
    have hge := Lib.indexByte_ge l c
    rw [cutAll_cons]
    by_cases hx : x = c
    · subst hx
      refine ⟨fun h => ?_, fun i h => ?_⟩
      · simp [Lib.indexByte] at h
      · have : i = 0 := by
          simp [Lib.indexByte] at h
          omega
        subst this
        rw [if_pos rfl]
        simp
    · rw [if_neg hx]
      refine ⟨fun h => ?_, fun i h => ?_⟩
      · have hl : Lib.indexByte l c = -1 := by
          unfold Lib.indexByte at h
          rw [if_neg (by simpa using hx)] at h
          split at h
          · rename_i he; exact beq_iff_eq.1 he
          · omega
        rw [h1 hl]
        rfl
      · obtain ⟨j, hl, rfl⟩ : ∃ j : Nat, Lib.indexByte l c = j ∧ i = j + 1 := by
          unfold Lib.indexByte at h
          rw [if_neg (by simpa using hx)] at h
          split at h
          · omega
          · rename_i he
            have he' : Lib.indexByte l c ≠ -1 := fun e => he (beq_iff_eq.2 e)
            exact ⟨(Lib.indexByte l c).toNat, by omega, by omega⟩
        rw [h2 j hl]
        simp [glue]
theorem splitK_cutAll (c : UInt8) : ∀ (fuel : Nat) (s : List UInt8), s.length < fuel → Lib.splitK [c] 0 (Lib.countFrom [c] fuel s) s = cutAll c s
  | 0, s, h => absurd h (Nat.not_lt_zero _)
  | fuel + 1, s, h => by
    obtain ⟨h1, h2⟩ := cutAll_index c s
    have hge := Lib.indexByte_ge s c
    rw [Lib.countFrom, Lib.index_one]
    by_cases hi : Lib.indexByte s c = -1
    · rw [if_pos (beq_iff_eq.2 hi), h1 hi]
      rfl
    · obtain ⟨i, hi'⟩ : ∃ i : Nat, Lib.indexByte s c = i := ⟨(Lib.indexByte s c).toNat, by omega⟩
      have hm : ¬ (Lib.indexByte s c == -1) = true := fun e => hi (beq_iff_eq.1 e)
      rw [if_neg hm, h2 i hi', Nat.add_comm 1, Lib.splitK, Lib.index_one, if_neg hm, hi', Int.toNat_natCast]
      have hroom : i < s.length := by
        have := Lib.indexByte_some hi'
        have h3 := this.1
        by_cases hlt : i < s.length
        · exact hlt
        · rw [List.getElem?_eq_none (by omega)] at h3; cases h3
      have := splitK_cutAll c fuel (s.drop (i + 1)) (by rw [List.length_drop]; omega)
      simp only [Nat.add_zero, List.length_cons, List.length_nil, Nat.zero_add] at this ⊢
      rw [this]
theorem split_cutAll (c : UInt8) (s : List UInt8) : Lib.split s [c] = cutAll c s := splitK_cutAll c _ s (by omega)

theorem cutAll_sizes (c : UInt8) : ∀ (s x : List UInt8), x ∈ cutAll c s → x.length ≤ s.length
  | [], x, h => by simp [cutAll] at h; rw [h]; exact Nat.le_refl _
  | y :: s, x, h => by
    rw [cutAll_cons] at h
    split at h
    · rcases List.mem_cons.1 h with e | e
      · rw [e]; simp
      · have := cutAll_sizes c s x e; simp only [List.length_cons]; omega
    · cases hc : cutAll c s with
      | nil => exact absurd hc (cutAll_ne c s)
      | cons a b =>
        rw [hc] at h
        simp only [glue, List.mem_cons] at h
        rcases h with e | e
        · have := cutAll_sizes c s a (by rw [hc]; simp)
          rw [e, List.length_append, List.length_cons]; simp; omega
        · have := cutAll_sizes c s x (by rw [hc]; simp [e])
          simp only [List.length_cons]; omega
theorem spec_num' (l : List UInt8) (hl : l.length ≤ 1048576) (k : Nat) (hk : 30 ≤ k) : spec_l01Number.f k (toB l) = some (numL l) := spec_num (toB l) (by rw [toB_size]; omega) k hk
theorem impl_num' (l : List UInt8) (hl : l.length ≤ 1048576) (k : Nat) (hk : 30 ≤ k) : impl_ReadDecimal.f k (toB l) = some (numL l) := impl_num (toB l) (by rw [toB_size]; omega) k hk

theorem cutAll_length (c : UInt8) : ∀ l : List UInt8, (cutAll c l).length ≤ l.length + 1
  | [] => Nat.le_refl _
  | x :: l => by
    have := cutAll_length c l
    rw [cutAll_cons]
    split
    · simp only [List.length_cons]; omega
    · cases h : cutAll c l with
      | nil => exact absurd h (cutAll_ne c l)
      | cons y r => rw [h] at this; simp only [glue, List.length_cons] at this ⊢; omega
theorem extract_data (s : ByteArray) (a b : Nat) : (s.extract a b).data.toList = (s.data.toList.drop a).take (b - a) := by
  rw [ByteArray.data_extract, Array.toList_extract]
theorem extract_toB (s : ByteArray) (a b : Nat) : s.extract a b = toB ((s.data.toList.drop a).take (b - a)) := by
  rw [← extract_data]
  rfl
theorem spec_split_loop (c : UInt8) (s : ByteArray) (hs : s.size ≤ 1048576) : ∀ (d i b k : Nat) (acc : List ByteArray), i + d = s.data.toList.length → d < k → b ≤ i → acc.length ≤ i →
    spec_l01Split.l0 k s ((c.toNat : Nat) : Int) acc b i = some (acc ++ (glue ((s.data.toList.drop b).take (i - b)) (cutAll c (s.data.toList.drop i))).map toB)
  | d, i, b, 0, acc, _, h, _, _ => absurd h (Nat.not_lt_zero _)
  | 0, i, b, k + 1, acc, h, _, hb, ha => by
    have hz := size_list s
    rw [spec_l01Split.l0, if_neg (by omega), if_pos (by omega), if_pos (by omega), if_pos (by omega), Int.toNat_natCast, extract_toB, List.drop_eq_nil_of_le (show s.data.toList.length ≤ i by omega)]
    rw [show i = s.data.toList.length by omega, hz]
    simp [cutAll, glue]
  | d + 1, i, b, k + 1, acc, h, hk, hb, ha => by
    have hz := size_list s
    have hi : i < s.data.toList.length := by omega
    have e2 : wrap64 ((i : Int) + 1) = ((i + 1 : Nat) : Int) := by rw [w64 (by omega) (by omega)]; omega
    rw [spec_l01Split.l0, if_pos (by omega), if_pos (by omega), bt_nat s i hi, e2, List.drop_eq_getElem_cons hi, cutAll_cons]
    by_cases hc : s.data.toList[i] = c
    · rw [if_pos (by rw [hc]), if_pos (by omega), if_pos (by omega), if_pos (by omega), if_pos (by omega), spec_split_loop c s hs d (i + 1) (i + 1) k _ (by omega) (by omega) (Nat.le_refl _) (by rw [List.length_append, List.length_singleton]; omega), if_pos hc, Nat.sub_self, List.take_zero, glue_nil _ (cutAll_ne _ _), Int.toNat_natCast, Int.toNat_natCast, extract_toB]
      simp [glue]
    · have hc' : ¬ ((s.data.toList[i].toNat : Nat) : Int) = ((c.toNat : Nat) : Int) := by
        intro e
        exact hc (UInt8.toNat_inj.1 (by omega))
      rw [if_neg hc', spec_split_loop c s hs d (i + 1) b k acc (by omega) (by omega) (by omega) (by omega), if_neg hc, glue_glue _ _ _ (cutAll_ne _ _)]
      congr 4
      rw [show i + 1 - b = (i - b) + 1 by omega, List.take_add_one, List.getElem?_drop, show b + (i - b) = i by omega, List.getElem?_eq_getElem hi]
      rfl
theorem spec_split (c : UInt8) (s : ByteArray) (hs : s.size ≤ 1048576) (k : Nat) (hk : s.size + 1 ≤ k) : spec_l01Split.f k s ((c.toNat : Nat) : Int) = some ((cutAll c s.data.toList).map toB) := by
  unfold spec_l01Split.f
  have hz := size_list s
  have := spec_split_loop c s hs s.data.toList.length 0 0 k [] (by omega) (by omega) (Nat.le_refl _) (Nat.le_refl _)
  simp only [Int.natCast_zero] at this
  rw [this, List.drop_zero, Nat.sub_self, List.take_zero, glue_nil _ (cutAll_ne _ _)]
  rfl

/-- What Cut gives, said by the pieces. -/
theorem cut_pieces (c : UInt8) (s : List UInt8) : (Lib.cut s [c] = (s, [], false) ∧ cutAll c s = [s]) ∨ (∃ l r, Lib.cut s [c] = (l, r, true) ∧ cutAll c s = l :: cutAll c r ∧ (∀ x ∈ l, x ≠ c)) := by
  obtain ⟨h1, h2⟩ := cutAll_index c s
  have hge := Lib.indexByte_ge s c
  have e := Lib.index_one s c
  by_cases h : Lib.indexByte s c = -1
  · left
    unfold Lib.cut
    rw [e, if_neg (by omega)]
    exact ⟨rfl, h1 h⟩
  · right
    obtain ⟨i, hi⟩ : ∃ i : Nat, Lib.indexByte s c = i := ⟨(Lib.indexByte s c).toNat, by omega⟩
    refine ⟨s.take i, s.drop (i + 1), ?_, h2 i hi, fun x hx => ?_⟩
    · unfold Lib.cut
      rw [e, hi, if_pos (by omega), Int.toNat_natCast]
      rfl
    · obtain ⟨j, hj, e⟩ := List.mem_iff_getElem.1 hx
      rw [List.length_take] at hj
      rw [List.getElem_take] at e
      have := (Lib.indexByte_some hi).2 j (by omega)
      rw [List.getElem?_eq_getElem (by omega), e] at this
      intro hx
      exact this (by rw [hx])
theorem impl_cut (c : UInt8) (s : ByteArray) (hs : s.size ≤ 1048576) : strings_Cut.f s (⟨#[c]⟩ : ByteArray) = some (toB (Lib.cut s.data.toList [c]).1, toB (Lib.cut s.data.toList [c]).2.1, (Lib.cut s.data.toList [c]).2.2) := by
  unfold strings_Cut.f
  rw [if_pos (by omega)]
  rfl
/-- A text with the byte in it has two pieces. -/
theorem two_pieces (y : UInt8) : ∀ r : List UInt8, y ∈ r → 2 ≤ (cutAll y r).length := by
  intro r
  induction r with
  | nil => intro h; cases h
  | cons x l ih =>
    intro h
    rw [cutAll_cons]
    have hne := cutAll_ne y l
    by_cases hx : x = y
    · rw [if_pos hx]
      have : 0 < (cutAll y l).length := List.length_pos_iff.2 hne
      simp only [List.length_cons]; omega
    · rw [if_neg hx]
      have := ih ((List.mem_cons.1 h).resolve_left (fun e => hx e.symm))
      cases hc : cutAll y l with
      | nil => exact absurd hc hne
      | cons a b => rw [hc] at this; simpa [glue] using this
theorem cutAll_one {c : UInt8} {r : List UInt8} {x : List UInt8} (h : cutAll c r = [x]) : x = r ∧ ∀ y ∈ r, y ≠ c := by
  rcases cut_pieces c r with ⟨_, h2⟩ | ⟨l, r', h1, h2, h3⟩
  · rw [h2] at h
    simp only [List.cons.injEq, and_true] at h
    subst h
    refine ⟨rfl, fun y hy e => ?_⟩
    subst e
    have := two_pieces y r hy
    rw [h2] at this
    simp at this
  · rw [h2] at h
    simp only [List.cons.injEq] at h
    exact absurd h.2 (cutAll_ne _ _)

/-- The point of a text. -/
def ptOf (s : List UInt8) : Int × Int × Bool :=
  match cutAll 44 s with
  | [a, b] => if (numL a).2 = true ∧ (numL b).2 = true ∧ okP (numL a).1 (numL b).1 = true then ((numL a).1, (numL b).1, true) else (0, 0, false)
  | _ => (0, 0, false)
theorem rd0 (a : ByteArray) (l : List ByteArray) : rdOf ByteArray.empty (a :: l) 0 = a := rfl
theorem rd1 (a b : ByteArray) (l : List ByteArray) : rdOf ByteArray.empty (a :: b :: l) 1 = b := rfl
theorem spec_read (s : List UInt8) (hs : s.length ≤ 1048576) (k : Nat) (hk : s.length + 40 ≤ k) : spec_l02Read.f k (toB s) = some (ptOf s) := by
  unfold spec_l02Read.f ptOf
  have e : (((44 : UInt8).toNat : Nat) : Int) = 44 := rfl
  have h := spec_split 44 (toB s) (by rw [toB_size]; omega) k (by rw [toB_size]; omega)
  rw [e] at h
  rw [h, Option.bind_some, data_toB]
  have hz := cutAll_sizes 44 s
  match hc : cutAll 44 s with
  | [] => rfl
  | [a] => rfl
  | [a, b] =>
    have ha := hz a (by rw [hc]; simp)
    have hb := hz b (by rw [hc]; simp)
    simp only [List.map_cons, List.map_nil, List.length_cons, List.length_nil, rd0, rd1]
    rw [spec_num' a (by omega) k (by omega), spec_num' b (by omega) k (by omega)]
    simp only [Option.bind_some, spec_l02Ok_eq]
    rw [if_pos (by decide), if_pos (by decide), if_pos (by decide)]
    by_cases h1 : (numL a).2 = true
    · by_cases h2 : (numL b).2 = true
      · by_cases h3 : okP (numL a).1 (numL b).1 = true
        · rw [if_pos h1, if_pos h2, if_pos h3, if_pos ⟨h1, h2, h3⟩]
        · rw [if_pos h1, if_pos h2, if_neg h3, if_neg (fun h => h3 h.2.2)]
      · rw [if_pos h1, if_neg h2, if_neg (fun h => h2 h.2.1)]
    · rw [if_neg h1, if_neg (fun h => h1 h.1)]
  | a :: b :: c :: l =>
    simp only [List.map_cons, List.length_cons]
    rw [if_neg (by omega)]
theorem impl_read (s : List UInt8) (hs : s.length ≤ 1048576) (k : Nat) (hk : s.length + 40 ≤ k) : impl_ReadPoint.f k (toB s) = some (ptOf s) := by
  unfold impl_ReadPoint.f ptOf
  rw [impl_cut 44 (toB s) (by rw [toB_size]; omega), Option.bind_some, data_toB]
  have hz := cutAll_sizes 44 s
  rcases cut_pieces 44 s with ⟨h1, h2⟩ | ⟨l, r, h1, h2, h3⟩
  · rw [h1, h2]
    simp only
    rw [impl_num' s (by omega) k (by omega), impl_num' [] (by simp) k (by omega), Option.bind_some, Option.bind_some, if_neg (by decide)]
  · rw [h1, h2]
    have hl := hz l (by rw [h2]; simp)
    have hr : r.length ≤ s.length := by
      unfold Lib.cut at h1
      split at h1
      · simp only [Prod.mk.injEq] at h1
        rw [← h1.2.1, List.length_drop]; omega
      · simp at h1
    simp only
    rw [impl_num' l (by omega) k (by omega), impl_num' r (by omega) k (by omega), Option.bind_some, Option.bind_some, if_pos trivial]
    match hc : cutAll 44 r with
    | [] => exact absurd hc (cutAll_ne _ _)
    | [x] =>
      obtain ⟨rfl, _⟩ := cutAll_one hc
      simp only [Option.bind_some, impl_ValidPoint_eq]
      by_cases h1 : (numL l).2 = true
      · by_cases h2 : (numL x).2 = true
        · by_cases h3 : okP (numL l).1 (numL x).1 = true
          · rw [if_pos h1, if_pos h2, if_pos h3, if_pos ⟨h1, h2, h3⟩]
          · rw [if_pos h1, if_pos h2, if_neg h3, if_neg (fun h => h3 h.2.2)]
        · rw [if_pos h1, if_neg h2, if_neg (fun h => h2 h.2.1)]
      · rw [if_neg h1, if_neg (fun h => h1 h.1)]
    | x :: y :: t =>
      -- the rest has a comma in it
      have hm : (44 : UInt8) ∈ r := by
        rcases cut_pieces 44 r with ⟨_, q⟩ | ⟨l', r', q1, q2, q3⟩
        · rw [q] at hc; simp at hc
        · unfold Lib.cut at q1
          have e := Lib.index_one r 44
          have hge := Lib.indexByte_ge r 44
          split at q1
          · rename_i hi
            rw [e] at hi
            obtain ⟨i, hi'⟩ : ∃ i : Nat, Lib.indexByte r 44 = i := ⟨(Lib.indexByte r 44).toNat, by omega⟩
            exact List.mem_of_getElem? (Lib.indexByte_some hi').1
          · simp at q1
      have hbad := numL_comma hm (by decide) (by decide)
      rw [hbad]
      simp

theorem impl_split (c : UInt8) (s : ByteArray) (hs : s.size ≤ 1048576) : strings_Split.f s (⟨#[c]⟩ : ByteArray) = some ((cutAll c s.data.toList).map toB) := by
  unfold strings_Split.f
  rw [if_pos (show 1 ≤ (⟨#[c]⟩ : ByteArray).size from Nat.le_refl 1), if_pos (by omega)]
  congr 1
  rw [← split_cutAll c s.data.toList, ← map_toB (Lib.splitB _ _ _ _), Lib.splitB_data]
  rfl

theorem map_rd (p : List (List UInt8)) (i : Nat) (h : i < p.length) : rdOf ByteArray.empty (p.map toB) (i : Int) = toB p[i] := by
  unfold rdOf
  rw [Int.toNat_natCast, List.getD_eq_getElem?_getD, List.getElem?_map, List.getElem?_eq_getElem h]
  rfl

def mkP (x : List UInt8) : S40 := ⟨(ptOf x).1, (ptOf x).2.1⟩
theorem spec_poly_loop (p : List (List UInt8)) (hp : p.length ≤ 1048577) (hs : ∀ x ∈ p, x.length ≤ 1048576) (r : List S40 × Bool) (K : Nat) : ∀ (d i k : Nat) (acc : List S40), i + d = p.length → d + 1048700 + K < k → acc.length ≤ i →
    (∀ k, K ≤ k → (spec_l03Ok.f k (acc ++ (p.drop i).map mkP)).bind (fun t => if t = true then some (acc ++ (p.drop i).map mkP, true) else some (([] : List S40), false)) = some r) →
    spec_l03Read.l0 k (p.map toB) acc i = some (if (p.drop i).all (fun x => (ptOf x).2.2) = true then r else ([], false))
  | d, i, 0, acc, _, h, _, _ => absurd h (Nat.not_lt_zero _)
  | 0, i, k + 1, acc, h, hk, ha, hr => by
    have := hr k (by omega)
    rw [List.drop_eq_nil_of_le (by omega), List.map_nil, List.append_nil] at this
    rw [spec_l03Read.l0, if_neg (by rw [List.length_map]; omega), List.drop_eq_nil_of_le (by omega), if_pos List.all_nil]
    exact this
  | d + 1, i, k + 1, acc, h, hk, ha, hr => by
    have hi : i < p.length := by omega
    have hsi := hs p[i] (List.getElem_mem hi)
    have next := spec_poly_loop p hp hs r K d (i + 1) k (acc ++ [mkP p[i]]) (by omega) (by omega) (by rw [List.length_append, List.length_singleton]; omega) (by
      intro k hk
      have := hr k hk
      rw [List.drop_eq_getElem_cons hi, List.map_cons] at this
      rw [List.append_assoc]
      exact this)
    rw [spec_l03Read.l0, if_pos (by rw [List.length_map]; omega), if_pos (by omega), map_rd p i hi, spec_read _ hsi k (by omega), Option.bind_some, w64 (by omega) (by omega), show (i : Int) + 1 = ((i + 1 : Nat) : Int) by omega, if_pos (show acc.length < 8796093022208 by omega), List.drop_eq_getElem_cons hi, List.all_cons]
    by_cases hb : (ptOf p[i]).2.2 = true
    · rw [if_pos hb, hb, Bool.true_and]
      exact next
    · rw [if_neg hb, Bool.eq_false_iff.2 hb, Bool.false_and]
      rfl
theorem impl_poly_loop (p : List (List UInt8)) (hp : p.length ≤ 1048577) (hs : ∀ x ∈ p, x.length ≤ 1048576) (r : List S40 × Bool) (K : Nat) : ∀ (d i k : Nat) (acc : List S40), i + d = p.length → d + 1048700 + K < k → acc.length ≤ i →
    (∀ k, K ≤ k → (impl_ValidPolygon.f k (acc ++ (p.drop i).map mkP)).bind (fun t => if t = true then some (acc ++ (p.drop i).map mkP, true) else some (([] : List S40), false)) = some r) →
    impl_ReadPolygon.l0 k acc (p.map toB) ((p.map toB).length : Int) i = some (if (p.drop i).all (fun x => (ptOf x).2.2) = true then r else ([], false))
  | d, i, 0, acc, _, h, _, _ => absurd h (Nat.not_lt_zero _)
  | 0, i, k + 1, acc, h, hk, ha, hr => by
    have := hr k (by omega)
    rw [List.drop_eq_nil_of_le (by omega), List.map_nil, List.append_nil] at this
    rw [impl_ReadPolygon.l0, if_neg (by rw [List.length_map]; omega), List.drop_eq_nil_of_le (by omega), if_pos List.all_nil]
    exact this
  | d + 1, i, k + 1, acc, h, hk, ha, hr => by
    have hi : i < p.length := by omega
    have hsi := hs p[i] (List.getElem_mem hi)
    have next := impl_poly_loop p hp hs r K d (i + 1) k (acc ++ [mkP p[i]]) (by omega) (by omega) (by rw [List.length_append, List.length_singleton]; omega) (by
      intro k hk
      have := hr k hk
      rw [List.drop_eq_getElem_cons hi, List.map_cons] at this
      rw [List.append_assoc]
      exact this)
    rw [impl_ReadPolygon.l0, if_pos (by rw [List.length_map]; omega), if_pos (by omega), if_pos (by rw [List.length_map]; omega), map_rd p i hi, impl_read _ hsi k (by omega), Option.bind_some, w64 (by omega) (by omega), show (i : Int) + 1 = ((i + 1 : Nat) : Int) by omega, if_pos (show acc.length < 8796093022208 by omega), List.drop_eq_getElem_cons hi, List.all_cons]
    by_cases hb : (ptOf p[i]).2.2 = true
    · rw [if_pos hb, hb, Bool.true_and]
      exact next
    · rw [if_neg hb, Bool.eq_false_iff.2 hb, Bool.false_and]
      rfl
theorem readpoly_eq (s : List UInt8) (hs : s.length ≤ 1048576) : ∃ r : List S40 × Bool, r.1.length ≤ 1048577 ∧ (∀ k, 3000000 ≤ k → spec_ReadPolygon.f k (toB s) = some r) ∧ (∀ k, 3000000 ≤ k → impl_ReadPolygon.f k (toB s) = some r) := by
  have hl := cutAll_length 32 s
  have hz := fun x hx => Nat.le_trans (cutAll_sizes 32 s x hx) hs
  have hml : (((cutAll 32 s).map mkP)).length ≤ 1048577 := by rw [List.length_map]; omega
  -- the points are few, or it is no polygon
  have main : ∃ r : List S40 × Bool, r.1.length ≤ 1048577 ∧ (∀ k, 1000 ≤ k → (spec_l03Ok.f k ((cutAll 32 s).map mkP)).bind (fun t => if t = true then some ((cutAll 32 s).map mkP, true) else some (([] : List S40), false)) = some r) ∧ (∀ k, 1000 ≤ k → (impl_ValidPolygon.f k ((cutAll 32 s).map mkP)).bind (fun t => if t = true then some ((cutAll 32 s).map mkP, true) else some (([] : List S40), false)) = some r) := by
    by_cases hb : ((cutAll 32 s).map mkP).length ≤ 1048576
    · obtain ⟨b, h1, h2, _⟩ := spec_valid_eq ((cutAll 32 s).map mkP) hb
      refine ⟨if b = true then ((cutAll 32 s).map mkP, true) else ([], false), ?_, fun k hk => ?_, fun k hk => ?_⟩
      · cases b
        · simp
        · exact hml
      · rw [h1 k hk]
        cases b <;> rfl
      · rw [h2 k hk]
        cases b <;> rfl
    · refine ⟨([], false), by simp, fun k hk => ?_, fun k hk => ?_⟩
      · obtain ⟨k, rfl⟩ : ∃ m, k = m + 1 := ⟨k - 1, by omega⟩
        unfold spec_l03Ok.f
        rw [if_neg (by omega), decide_eq_true (by omega)]
        simp only [spec_l03Ok.j0, if_true, Option.bind_some]
        rfl
      · obtain ⟨k, rfl⟩ : ∃ m, k = m + 1 := ⟨k - 1, by omega⟩
        unfold impl_ValidPolygon.f
        rw [if_neg (by omega), if_pos (by omega)]
        simp only [impl_ValidPolygon.j0, if_true, Option.bind_some]
        rfl
  obtain ⟨r, hr, g1, g2⟩ := main
  refine ⟨if (cutAll 32 s).all (fun x => (ptOf x).2.2) = true then r else ([], false), by split; exact hr; simp, fun k hk => ?_, fun k hk => ?_⟩
  · have e : (((32 : UInt8).toNat : Nat) : Int) = 32 := rfl
    have h := spec_split 32 (toB s) (by rw [toB_size]; omega) k (by rw [toB_size]; omega)
    rw [e] at h
    unfold spec_ReadPolygon.f spec_l03Read.f
    rw [h, Option.bind_some, data_toB]
    have := spec_poly_loop (cutAll 32 s) (by omega) hz r 1000 _ 0 k [] (Nat.zero_add _) (by omega) (Nat.le_refl _) (fun k hk => g1 k hk)
    rw [List.drop_zero] at this
    have this : spec_l03Read.l0 k _ [] 0 = _ := this
    rw [this]
    rfl
  · unfold impl_ReadPolygon.f
    rw [impl_split 32 (toB s) (by rw [toB_size]; omega), Option.bind_some, data_toB]
    have := impl_poly_loop (cutAll 32 s) (by omega) hz r 1000 _ 0 k [] (Nat.zero_add _) (by omega) (Nat.le_refl _) (fun k hk => g2 k hk)
    rw [List.drop_zero] at this
    exact this

theorem eqPoint_self (x y : Int) : laws_eqPoint.f x y x y = some true := by
  unfold laws_eqPoint.f
  rw [if_pos rfl, if_pos rfl]
theorem eqPointS_loop (l : List S40) (h : l.length ≤ 1000000000) : ∀ (d k i : Nat), l.length - i ≤ d → d < k → laws_eqPointS.l0 k l l i = some true
  | d, 0, i, _, h2 => absurd h2 (by omega)
  | d, k + 1, i, h1, h2 => by
    simp only [laws_eqPointS.l0]
    by_cases hi : i < l.length
    · rw [if_pos (by omega), if_pos (by omega), if_pos (by omega), eqPoint_self, Option.bind_some, if_pos rfl, w1 (by omega)]
      exact eqPointS_loop l h (d - 1) k (i + 1) (by omega) (by omega)
    · rw [if_neg (by omega)]
theorem eqPointS_self (l : List S40) (h : l.length ≤ 1000000000) (k : Nat) (hk : l.length < k) : laws_eqPointS.f k l l = some true := by
  unfold laws_eqPointS.f
  rw [if_pos rfl]
  exact eqPointS_loop l h l.length k 0 (by omega) hk

theorem p_ext {x y : S40} (h0 : x.f0 = y.f0) (h1 : x.f1 = y.f1) : x = y := by
  cases x
  cases y
  simp_all
theorem getD_set_self (x : List S40) (i : Nat) (v : S40) (h : i < x.length) : (x.set i v).getD i z40 = v := by
  rw [List.getD_eq_getElem?_getD, List.getElem?_set_self h]
  rfl
theorem getD_set_ne (x : List S40) (i j : Nat) (v : S40) (h : i ≠ j) : (x.set i v).getD j z40 = x.getD j z40 := by
  rw [List.getD_eq_getElem?_getD, List.getElem?_set_ne h, List.getD_eq_getElem?_getD]
theorem mark_loop (n : Nat) (hn : n ≤ 1000000000) : ∀ (d k i : Nat) (x : List S40), x.length = n → i ≤ n → n - i ≤ d → d < k → (∀ j, j < i → x.getD j z40 = ⟨1 + 2 * (j : Int), 1 + 2 * (j : Int) + 1⟩) →
    ∃ m : List S40, laws_markPointS.l0 k x (1 + 2 * (i : Int)) i = some (1 + 2 * (n : Int), m) ∧ m.length = n ∧ ∀ j, j < n → m.getD j z40 = ⟨1 + 2 * (j : Int), 1 + 2 * (j : Int) + 1⟩
  | d, 0, i, x, _, _, _, h, _ => absurd h (by omega)
  | d, k + 1, i, x, hx, hi, h1, h2, hm => by
    simp only [laws_markPointS.l0]
    by_cases hlt : i < n
    · rw [if_pos (by omega), if_pos (by omega), Option.bind_some, Int.toNat_natCast, rdN, rdN, getD_set_self x i _ (by omega), w1 (by omega), w64 (x := 1 + 2 * (i : Int) + 1) (by omega) (by omega), w64 (x := 1 + 2 * (i : Int) + 1 + 1) (by omega) (by omega)]
      have := mark_loop n hn (d - 1) k (i + 1) ((x.set i ⟨1 + 2 * (i : Int), (x.getD i z40).f1⟩).set i ⟨1 + 2 * (i : Int), 1 + 2 * (i : Int) + 1⟩) (by simp [hx]) (by omega) (by omega) (by omega) (fun j hj => by
        by_cases e : i = j
        · subst e
          rw [getD_set_self _ _ _ (by simp; omega)]
        · rw [getD_set_ne _ _ _ _ e, getD_set_ne _ _ _ _ e]
          exact hm j (by omega))
      rw [show (1 + 2 * (i : Int) + 1 + 1) = 1 + 2 * ((i + 1 : Nat) : Int) by omega]
      exact this
    · have e : i = n := by omega
      subst e
      exact ⟨x, by rw [if_neg (by omega)], hx, hm⟩
theorem marked (x : List S40) (hn : x.length ≤ 1000000000) : ∃ (n : Int) (m : List S40), 0 < n ∧ (∀ k, x.length < k → laws_markPointS.f k x 1 = some (n, m)) := by
  obtain ⟨m, h1, h2, h3⟩ := mark_loop x.length hn x.length (x.length + 1) 0 x rfl (by omega) (by omega) (by omega) (fun j hj => absurd hj (by omega))
  refine ⟨1 + 2 * (x.length : Int), m, by omega, fun k hk => ?_⟩
  unfold laws_markPointS.f
  exact at_rounds (fun k => laws_markPointS.mono_l k _ _ _) (show x.length + 1 ≤ k by omega) h1

theorem held_loop (n : Nat) (hn : n ≤ 1000000000) (m : List S40) (hl : m.length = n) (hm : ∀ j, j < n → m.getD j z40 = ⟨1 + 2 * (j : Int), 1 + 2 * (j : Int) + 1⟩) : ∀ (d k i : Nat), i ≤ n → n - i ≤ d → d < k → laws_heldPointS.l0 k m (1 + 2 * (i : Int)) i = some (1 + 2 * (n : Int))
  | d, 0, i, _, _, h => absurd h (by omega)
  | d, k + 1, i, hi, h1, h2 => by
    simp only [laws_heldPointS.l0]
    by_cases hlt : i < n
    · rw [if_pos (by omega), if_pos (by omega), rdN, hm i hlt, if_pos rfl, w64 (x := 1 + 2 * (i : Int) + 1) (by omega) (by omega), if_pos rfl, w1 (by omega), w64 (x := 1 + 2 * (i : Int) + 1 + 1) (by omega) (by omega), show (1 + 2 * (i : Int) + 1 + 1) = 1 + 2 * ((i + 1 : Nat) : Int) by omega]
      exact held_loop n hn m hl hm (d - 1) k (i + 1) (by omega) (by omega) (by omega)
    · rw [if_neg (by omega), show i = n by omega]
/-- What is marked is held. -/
theorem mark_held (x : List S40) (hn : x.length ≤ 1000000000) : ∃ (n : Int) (m : List S40), 0 < n ∧ (∀ k, x.length < k → laws_markPointS.f k x 1 = some (n, m)) ∧ (∀ k, x.length < k → laws_heldPointS.f k m 1 = some n) := by
  obtain ⟨m, h1, h2, h3⟩ := mark_loop x.length hn x.length (x.length + 1) 0 x rfl (by omega) (by omega) (by omega) (fun j hj => absurd hj (by omega))
  refine ⟨1 + 2 * (x.length : Int), m, by omega, fun k hk => ?_, fun k hk => ?_⟩
  · unfold laws_markPointS.f
    exact at_rounds (fun k => laws_markPointS.mono_l k _ _ _) (show x.length + 1 ≤ k by omega) h1
  · unfold laws_heldPointS.f
    exact held_loop x.length hn m h2 h3 x.length k 0 (by omega) (by omega) hk

theorem FnExactReadPolygon : laws_FnExactReadPolygon.Pure := by
  intro s hs
  by_cases h : (s.size : Int) > 1048576
  · refine ⟨0, ?_⟩
    unfold laws_FnExactReadPolygon.f
    rw [if_pos h]
  · have hz : s.size ≤ 1048576 := by omega
    have hl := size_list s
    obtain ⟨B, hB⟩ : ∃ B : Nat, 3000000 ≤ B := ⟨_, Nat.le_refl _⟩
    refine ⟨B + 2, ?_⟩
    obtain ⟨⟨g, b⟩, hlen, h1, h2⟩ := readpoly_eq s.data.toList (by omega)
    have hlen : g.length ≤ 1048577 := hlen
    rw [toB_data] at h1 h2
    obtain ⟨n, m, hn, b1, b2⟩ := mark_held g (by omega)
    have e3 := fun k (hk : 3000000 ≤ k) => eqPointS_self g (by omega) k (by omega)
    unfold laws_FnExactReadPolygon.f
    rw [if_neg h, h1 (B + 2) (by omega), h2 (B + 2) (by omega)]
    simp only [Option.bind_some]
    rw [e3 (B + 2) (by omega), Option.bind_some, if_pos rfl, bne_self_eq_false, laws_FnExactReadPolygon.j0, if_neg (by decide), b1 (B + 1) (by omega), Option.bind_some]
    dsimp only
    rw [b2 (B + 1) (by omega), Option.bind_some, if_neg (by omega), if_pos rfl, h2 (B + 1) (by omega), Option.bind_some]
    dsimp only
    rw [e3 (B + 1) (by omega), Option.bind_some, if_pos rfl, bne_self_eq_false, laws_FnExactReadPolygon.j1, if_neg (by decide), b2 B (by omega), Option.bind_some, if_neg (by omega), if_pos rfl]

end Go.Proofs.YtdegladckdnhiaaDoor.Pure
