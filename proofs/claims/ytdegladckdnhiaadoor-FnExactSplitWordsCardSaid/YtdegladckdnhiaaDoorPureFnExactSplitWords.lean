/- The plain law: what FnExactSplitWords computes is true at every input. -/
import Derived.Test.YtdegladckdnhiaaDoorRFnExactSplitWordsx
namespace Go.Proofs.YtdegladckdnhiaaDoor.Pure
open Go.RowKit Go.Proofs.YtdegladckdnhiaaDoor.PFnExactSplitWords Go.Proofs.YtdegladckdnhiaaDoorW.PrintWords Go.Proofs.YtdegladckdnhiaaDoorW.PrintLast Go.Proofs.YtdegladckdnhiaaDoorW.PrintMore
set_option linter.unusedVariables false
set_option linter.unusedSimpArgs false

theorem w64 {x : Int} (h1 : -9223372036854775808 ≤ x) (h2 : x ≤ 9223372036854775807) : wrap64 x = x := by
  unfold wrap64
  omega
theorem wf64 {n : Int} (h : (Lit.int .i64 n).wf = true) : -9223372036854775808 ≤ n ∧ n ≤ 9223372036854775807 := by
  simp [Lit.wf, IntKind.min, IntKind.max, IntKind.bits, IntKind.signed] at h
  omega
theorem toList_nil_iff (s : ByteArray) : s.toList = ([] : List UInt8) ↔ s.size = 0 := by
  rw [ByteArray.toList_eq, List.eq_nil_iff_length_eq_zero, data_length]

theorem bt_nat (s : ByteArray) (i : Nat) (h : i < s.data.toList.length) : bt s (i : Int) = ((s.data.toList[i]).toNat : Int) := by
  have h' : i < s.size := by rw [data_length] at h; exact h
  unfold bt
  rw [Int.toNat_natCast, dif_pos h']
  rfl
theorem size_list (s : ByteArray) : s.size = s.data.toList.length := (data_length s).symm

/-- A text cut at each byte c. -/
def cutAll (c : UInt8) : List UInt8 → List (List UInt8)
  | [] => [[]]
  | x :: l => if x = c then [] :: cutAll c l else match cutAll c l with
    | [] => [[x]]
    | y :: r => (x :: y) :: r
/-- p put ahead of the first piece. -/
def glue (p : List UInt8) : List (List UInt8) → List (List UInt8)
  | [] => [p]
  | y :: r => (p ++ y) :: r
theorem cutAll_cons (c x : UInt8) (l : List UInt8) : cutAll c (x :: l) = if x = c then [] :: cutAll c l else glue [x] (cutAll c l) := by
  rw [cutAll]
  split
  · rfl
  · cases cutAll c l <;> rfl
theorem cutAll_ne (c : UInt8) : ∀ l : List UInt8, cutAll c l ≠ []
  | [] => by simp [cutAll]
  | x :: l => by
    rw [cutAll_cons]
    split
    · simp
    · cases cutAll c l <;> simp [glue]
theorem glue_glue (p q : List UInt8) (r : List (List UInt8)) (h : r ≠ []) : glue p (glue q r) = glue (p ++ q) r := by
  cases r with
  | nil => exact absurd rfl h
  | cons y r => simp [glue]
theorem glue_nil (r : List (List UInt8)) (h : r ≠ []) : glue [] r = r := by
  cases r with
  | nil => exact absurd rfl h
  | cons y r => rfl
theorem cutAll_index (c : UInt8) : ∀ l : List UInt8, (Lib.indexByte l c = -1 → cutAll c l = [l]) ∧ (∀ i : Nat, Lib.indexByte l c = i → cutAll c l = l.take i :: cutAll c (l.drop (i + 1)))
  | [] => ⟨fun _ => rfl, fun i h => by simp [Lib.indexByte] at h⟩
  | x :: l => by
    obtain ⟨h1, h2⟩ := cutAll_index c l
    have hge := Lib.indexByte_ge l c
    rw [cutAll_cons]
    by_cases hx : x = c
    · subst hx
      refine ⟨fun h => ?_, fun i h => ?_⟩
      · simp [Lib.indexByte] at h
      · have : i = 0 := by
          simp [Lib.indexByte] at h
          omega
        subst this
        rw [if_pos rfl]
        simp
    · rw [if_neg hx]
      refine ⟨fun h => ?_, fun i h => ?_⟩
      · have hl : Lib.indexByte l c = -1 := by
          unfold Lib.indexByte at h
          rw [if_neg (by simpa using hx)] at h
          split at h
          · rename_i he; exact beq_iff_eq.1 he
          · omega
        rw [h1 hl]
        rfl
      · obtain ⟨j, hl, rfl⟩ : ∃ j : Nat, Lib.indexByte l c = j ∧ i = j + 1 := by
          unfold Lib.indexByte at h
          rw [if_neg (by simpa using hx)] at h
          split at h
          · omega
          · rename_i he
            have he' : Lib.indexByte l c ≠ -1 := fun e => he (beq_iff_eq.2 e)
            exact ⟨(Lib.indexByte l c).toNat, by omega, by omega⟩
        rw [h2 j hl]
        simp [glue]
theorem splitK_cutAll (c : UInt8) : ∀ (fuel : Nat) (s : List UInt8), s.length < fuel → Lib.splitK [c] 0 (Lib.countFrom [c] fuel s) s = cutAll c s
  | 0, s, h => absurd h (Nat.not_lt_zero _)
  | fuel + 1, s, h => by
    obtain ⟨h1, h2⟩ := cutAll_index c s
    have hge := Lib.indexByte_ge s c
    rw [Lib.countFrom, Lib.index_one]
    by_cases hi : Lib.indexByte s c = -1
    · rw [if_pos (beq_iff_eq.2 hi), h1 hi]
      rfl
    · obtain ⟨i, hi'⟩ : ∃ i : Nat, Lib.indexByte s c = i := ⟨(Lib.indexByte s c).toNat, by omega⟩
      have hm : ¬ (Lib.indexByte s c == -1) = true := fun e => hi (beq_iff_eq.1 e)
      rw [if_neg hm, h2 i hi', Nat.add_comm 1, Lib.splitK, Lib.index_one, if_neg hm, hi', Int.toNat_natCast]
      have hroom : i < s.length := by
        have := Lib.indexByte_some hi'
        have h3 := this.1
        by_cases hlt : i < s.length
        · exact hlt
        · rw [List.getElem?_eq_none (by omega)] at h3; cases h3
      have := splitK_cutAll c fuel (s.drop (i + 1)) (by rw [List.length_drop]; omega)
      simp only [Nat.add_zero, List.length_cons, List.length_nil, Nat.zero_add] at this ⊢
      rw [this]
theorem split_cutAll (c : UInt8) (s : List UInt8) : Lib.split s [c] = cutAll c s := splitK_cutAll c _ s (by omega)

def toB (l : List UInt8) : ByteArray := ⟨l.toArray⟩
theorem data_toB (l : List UInt8) : (toB l).data.toList = l := rfl
theorem toB_data (s : ByteArray) : toB s.data.toList = s := rfl
theorem toB_inj {a b : List UInt8} (h : toB a = toB b) : a = b := by rw [← data_toB a, h, data_toB]
theorem map_toB : ∀ l : List ByteArray, (l.map (·.data.toList)).map toB = l
  | [] => rfl
  | s :: l => by rw [List.map_cons, List.map_cons, map_toB l]; rfl
theorem toList_toB (l : List UInt8) : (toB l).toList = l := by rw [ByteArray.toList_eq]; rfl
theorem impl_split (c : UInt8) (s : ByteArray) (hs : s.size ≤ 1048576) : strings_Split.f s (⟨#[c]⟩ : ByteArray) = some ((cutAll c s.data.toList).map toB) := by
  unfold strings_Split.f
  rw [if_pos (show 1 ≤ (⟨#[c]⟩ : ByteArray).size from Nat.le_refl 1), if_pos (by omega)]
  congr 1
  rw [← split_cutAll c s.data.toList, ← map_toB (Lib.splitB _ _ _ _), Lib.splitB_data]
  rfl
theorem cutAll_length (c : UInt8) : ∀ l : List UInt8, (cutAll c l).length ≤ l.length + 1
  | [] => Nat.le_refl _
  | x :: l => by
    have := cutAll_length c l
    rw [cutAll_cons]
    split
    · simp only [List.length_cons]; omega
    · cases h : cutAll c l with
      | nil => exact absurd h (cutAll_ne c l)
      | cons y r => rw [h] at this; simp only [glue, List.length_cons] at this ⊢; omega
theorem extract_data (s : ByteArray) (a b : Nat) : (s.extract a b).data.toList = (s.data.toList.drop a).take (b - a) := by
  rw [ByteArray.data_extract, Array.toList_extract]
theorem extract_toB (s : ByteArray) (a b : Nat) : s.extract a b = toB ((s.data.toList.drop a).take (b - a)) := by
  rw [← extract_data]
  rfl
theorem spec_split_loop (c : UInt8) (s : ByteArray) (hs : s.size ≤ 1048576) : ∀ (d i b k : Nat) (acc : List ByteArray), i + d = s.data.toList.length → d < k → b ≤ i → acc.length ≤ i →
    spec_l01Split.l0 k s ((c.toNat : Nat) : Int) acc b i = some (acc ++ (glue ((s.data.toList.drop b).take (i - b)) (cutAll c (s.data.toList.drop i))).map toB)
  | d, i, b, 0, acc, _, h, _, _ => absurd h (Nat.not_lt_zero _)
  | 0, i, b, k + 1, acc, h, _, hb, ha => by
    have hz := size_list s
    rw [spec_l01Split.l0, if_neg (by omega), if_pos (by omega), if_pos (by omega), if_pos (by omega), Int.toNat_natCast, extract_toB, List.drop_eq_nil_of_le (show s.data.toList.length ≤ i by omega)]
    rw [show i = s.data.toList.length by omega, hz]
    simp [cutAll, glue]
  | d + 1, i, b, k + 1, acc, h, hk, hb, ha => by
    have hz := size_list s
    have hi : i < s.data.toList.length := by omega
    have e2 : wrap64 ((i : Int) + 1) = ((i + 1 : Nat) : Int) := by rw [w64 (by omega) (by omega)]; omega
    rw [spec_l01Split.l0, if_pos (by omega), if_pos (by omega), bt_nat s i hi, e2, List.drop_eq_getElem_cons hi, cutAll_cons]
    by_cases hc : s.data.toList[i] = c
    · rw [if_pos (by rw [hc]), if_pos (by omega), if_pos (by omega), if_pos (by omega), if_pos (by omega), spec_split_loop c s hs d (i + 1) (i + 1) k _ (by omega) (by omega) (Nat.le_refl _) (by rw [List.length_append, List.length_singleton]; omega), if_pos hc, Nat.sub_self, List.take_zero, glue_nil _ (cutAll_ne _ _), Int.toNat_natCast, Int.toNat_natCast, extract_toB]
      simp [glue]
    · have hc' : ¬ ((s.data.toList[i].toNat : Nat) : Int) = ((c.toNat : Nat) : Int) := by
        intro e
        exact hc (UInt8.toNat_inj.1 (by omega))
      rw [if_neg hc', spec_split_loop c s hs d (i + 1) b k acc (by omega) (by omega) (by omega) (by omega), if_neg hc, glue_glue _ _ _ (cutAll_ne _ _)]
      congr 4
      rw [show i + 1 - b = (i - b) + 1 by omega, List.take_add_one, List.getElem?_drop, show b + (i - b) = i by omega, List.getElem?_eq_getElem hi]
      rfl
theorem spec_split (c : UInt8) (s : ByteArray) (hs : s.size ≤ 1048576) (k : Nat) (hk : s.size + 1 ≤ k) : spec_l01Split.f k s ((c.toNat : Nat) : Int) = some ((cutAll c s.data.toList).map toB) := by
  unfold spec_l01Split.f
  have hz := size_list s
  have := spec_split_loop c s hs s.data.toList.length 0 0 k [] (by omega) (by omega) (Nat.le_refl _) (Nat.le_refl _)
  simp only [Int.natCast_zero] at this
  rw [this, List.drop_zero, Nat.sub_self, List.take_zero, glue_nil _ (cutAll_ne _ _)]
  rfl

theorem rdS (x : List ByteArray) (j : Nat) : rdOf ByteArray.empty x (j : Int) = x.getD j ByteArray.empty := by
  unfold rdOf
  rw [Int.toNat_natCast]
theorem getS (x : List ByteArray) (j : Nat) (h : j < x.length) : x.getD j ByteArray.empty = x[j] := by
  rw [List.getD_eq_getElem?_getD, List.getElem?_eq_getElem h]
  rfl
def nz (t : ByteArray) : Bool := decide (t.toList ≠ ([] : List UInt8))
theorem spec_words_loop (p : List ByteArray) (hp : p.length ≤ 1048577) : ∀ (d i k : Nat) (acc : List ByteArray), i + d = p.length → d < k → acc.length ≤ i →
    spec_SplitWords.l0 k p acc i = some (acc ++ (p.drop i).filter nz) ∧ impl_SplitWords.l0 k acc p (p.length : Int) i = some (acc ++ (p.drop i).filter nz)
  | d, i, 0, acc, _, h, _ => absurd h (Nat.not_lt_zero _)
  | 0, i, k + 1, acc, h, _, ha => by
    rw [spec_SplitWords.l0, impl_SplitWords.l0, if_neg (by omega), if_neg (by omega), List.drop_eq_nil_of_le (by omega)]
    simp
  | d + 1, i, k + 1, acc, h, hk, ha => by
    have hi : i < p.length := by omega
    have e2 : wrap64 ((i : Int) + 1) = ((i + 1 : Nat) : Int) := by rw [w64 (by omega) (by omega)]; omega
    have e1 : (i : Int) < (p.length : Int) := by omega
    have e0 : (0 : Int) ≤ (i : Int) := by omega
    have ea : acc.length < 8796093022208 := by omega
    rw [spec_SplitWords.l0, impl_SplitWords.l0]
    simp only [if_pos e1, if_pos e0, if_pos ea, rdS, getS p i hi, e2, List.drop_eq_getElem_cons hi, List.filter_cons]
    by_cases hc : (p[i]).toList = ([] : List UInt8)
    · have hn : nz p[i] = false := by unfold nz; simp [hc]
      rw [if_pos hc, if_pos hc, hn]
      exact spec_words_loop p hp d (i + 1) k acc (by omega) (by omega) (by omega)
    · have hn : nz p[i] = true := by unfold nz; simp [hc]
      rw [if_neg hc, if_neg hc, hn]
      have := spec_words_loop p hp d (i + 1) k (acc ++ [p[i]]) (by omega) (by omega) (by rw [List.length_append, List.length_singleton]; omega)
      rw [List.append_assoc] at this
      exact this
theorem eqStringS_loop (l : List ByteArray) (h : l.length ≤ 1000000000) : ∀ (d k i : Nat), l.length - i ≤ d → d < k → laws_eqStringS.l0 k l l i = some true
  | d, 0, i, _, h2 => absurd h2 (by omega)
  | d, k + 1, i, h1, h2 => by
    simp only [laws_eqStringS.l0]
    by_cases hi : i < l.length
    · rw [if_pos (by omega), if_pos (by omega), if_pos (by omega), if_pos trivial, w64 (by omega) (by omega)]
      exact eqStringS_loop l h (d - 1) k (i + 1) (by omega) (by omega)
    · rw [if_neg (by omega)]
theorem eqStringS_self (l : List ByteArray) (h : l.length ≤ 1000000000) (k : Nat) (hk : l.length < k) : laws_eqStringS.f k l l = some true := by
  unfold laws_eqStringS.f
  rw [if_pos rfl]
  exact eqStringS_loop l h l.length k 0 (by omega) hk
theorem markText_loop : ∀ (d : Nat) (x : Int) (t : ByteArray), x < 10 ^ d → x ≤ 9000000000000000000 → t.size + d ≤ 1000 → ∃ r, ∀ k, d < k → laws_markText.l0 k x t = some r
  | d, x, t, hd, hx, ht => by
    by_cases h0 : x > 0
    · cases d with
      | zero => simp at hd; omega
      | succ d =>
        have e1 : (strOfNums [(wrap64 (48 + (Int.tmod x 10))) % 256]).size = 1 := rfl
        have hq : Int.tdiv x 10 < 10 ^ d := by
          rw [Int.tdiv_eq_ediv_of_nonneg (by omega)]
          rw [Int.pow_succ] at hd
          omega
        have hq2 : Int.tdiv x 10 ≤ 9000000000000000000 := by
          rw [Int.tdiv_eq_ediv_of_nonneg (by omega)]
          omega
        have hq3 : 0 ≤ Int.tdiv x 10 := by
          rw [Int.tdiv_eq_ediv_of_nonneg (by omega)]
          omega
        obtain ⟨r, hr⟩ := markText_loop d (Int.tdiv x 10) (strOfNums [(wrap64 (48 + (Int.tmod x 10))) % 256] ++ t) hq hq2 (by rw [ByteArray.size_append, e1]; omega)
        refine ⟨r, fun k hk => ?_⟩
        obtain ⟨k, rfl⟩ : ∃ m, k = m + 1 := ⟨k - 1, by omega⟩
        rw [laws_markText.l0, if_pos h0, Option.bind_some, e1, if_pos (by omega), w64 (x := Int.tdiv x 10) (by omega) (by omega)]
        exact hr k (by omega)
    · refine ⟨(⟨#[109]⟩ : ByteArray) ++ t, fun k hk => ?_⟩
      obtain ⟨k, rfl⟩ : ∃ m, k = m + 1 := ⟨k - 1, by omega⟩
      rw [laws_markText.l0, if_neg h0, if_pos (by omega)]
theorem markText_all : ∃ f : Int → ByteArray, ∀ x : Int, x ≤ 1000000000000 → ∀ k, 20 ≤ k → laws_markText.f k x = some (f x) := by
  have key : ∀ x : Int, ∃ r, x ≤ 1000000000000 → ∀ k, 20 ≤ k → laws_markText.f k x = some r := by
    intro x
    by_cases hx : x ≤ 1000000000000
    · by_cases h0 : x ≤ 0
      · refine ⟨(⟨#[109, 48]⟩ : ByteArray), fun _ k _ => ?_⟩
        unfold laws_markText.f
        rw [if_pos h0]
      · have e : (10 : Int) ^ 13 = 10000000000000 := by decide
        have hz : (⟨#[]⟩ : ByteArray).size = 0 := rfl
        obtain ⟨r, hr⟩ := markText_loop 13 x (⟨#[]⟩ : ByteArray) (by omega) (by omega) (by omega)
        refine ⟨r, fun _ k hk => ?_⟩
        unfold laws_markText.f
        rw [if_neg h0]
        exact hr k (by omega)
    · exact ⟨ByteArray.empty, fun h => absurd h hx⟩
  exact ⟨fun x => (key x).choose, fun x => (key x).choose_spec⟩
theorem getS_set_self (x : List ByteArray) (i : Nat) (v : ByteArray) (h : i < x.length) : (x.set i v).getD i ByteArray.empty = v := by
  rw [List.getD_eq_getElem?_getD, List.getElem?_set_self h]
  rfl
theorem getS_set_ne (x : List ByteArray) (i j : Nat) (v : ByteArray) (h : i ≠ j) : (x.set i v).getD j ByteArray.empty = x.getD j ByteArray.empty := by
  rw [List.getD_eq_getElem?_getD, List.getElem?_set_ne h, List.getD_eq_getElem?_getD]
theorem smark_loop (f : Int → ByteArray) (hf : ∀ x : Int, x ≤ 1000000000000 → ∀ k, 20 ≤ k → laws_markText.f k x = some (f x)) (n : Nat) (hn : n ≤ 1000000000) : ∀ (d k i : Nat) (x : List ByteArray), x.length = n → i ≤ n → n - i ≤ d → d + 20 < k → (∀ j, j < i → x.getD j ByteArray.empty = f (1 + (j : Int))) →
    ∃ m : List ByteArray, laws_markStringS.l0 k x (1 + (i : Int)) i = some (1 + (n : Int), m) ∧ m.length = n ∧ ∀ j, j < n → m.getD j ByteArray.empty = f (1 + (j : Int))
  | d, 0, i, x, _, _, _, h, _ => absurd h (by omega)
  | d, k + 1, i, x, hx, hi, h1, h2, hm => by
    rw [laws_markStringS.l0]
    by_cases hlt : i < n
    · rw [if_pos (by omega), hf _ (by omega) k (by omega), Option.bind_some, if_pos (by omega), Int.toNat_natCast, w64 (x := (i : Int) + 1) (by omega) (by omega), w64 (x := 1 + (i : Int) + 1) (by omega) (by omega), show (1 + (i : Int) + 1) = 1 + ((i + 1 : Nat) : Int) by omega]
      exact smark_loop f hf n hn (d - 1) k (i + 1) (x.set i (f (1 + (i : Int)))) (by simp [hx]) (by omega) (by omega) (by omega) (fun j hj => by
        by_cases e : i = j
        · subst e
          rw [getS_set_self _ _ _ (by omega)]
        · rw [getS_set_ne _ _ _ _ e]
          exact hm j (by omega))
    · have e : i = n := by omega
      subst e
      exact ⟨x, by rw [if_neg (by omega)], hx, hm⟩
theorem sheld_loop (f : Int → ByteArray) (hf : ∀ x : Int, x ≤ 1000000000000 → ∀ k, 20 ≤ k → laws_markText.f k x = some (f x)) (n : Nat) (hn : n ≤ 1000000000) (m : List ByteArray) (hl : m.length = n) (hm : ∀ j, j < n → m.getD j ByteArray.empty = f (1 + (j : Int))) : ∀ (d k i : Nat), i ≤ n → n - i ≤ d → d + 20 < k → laws_heldStringS.l0 k m (1 + (i : Int)) i = some (1 + (n : Int))
  | d, 0, i, _, _, h => absurd h (by omega)
  | d, k + 1, i, hi, h1, h2 => by
    rw [laws_heldStringS.l0]
    by_cases hlt : i < n
    · rw [if_pos (by omega), if_pos (by omega), hf _ (by omega) k (by omega), Option.bind_some, rdS, hm i hlt, if_pos rfl, w64 (x := (i : Int) + 1) (by omega) (by omega), w64 (x := 1 + (i : Int) + 1) (by omega) (by omega), show (1 + (i : Int) + 1) = 1 + ((i + 1 : Nat) : Int) by omega]
      exact sheld_loop f hf n hn m hl hm (d - 1) k (i + 1) (by omega) (by omega) (by omega)
    · rw [if_neg (by omega), show i = n by omega]
/-- What is marked is held. -/
theorem smark_held (x : List ByteArray) (hn : x.length ≤ 1000000000) : ∃ (n : Int) (m : List ByteArray), 0 < n ∧ (∀ k, x.length + 21 ≤ k → laws_markStringS.f k x 1 = some (n, m)) ∧ (∀ k, x.length + 21 ≤ k → laws_heldStringS.f k m 1 = some n) := by
  obtain ⟨f, hf⟩ := markText_all
  have h0 := fun k (hk : x.length + 20 < k) => smark_loop f hf x.length hn x.length k 0 x rfl (by omega) (by omega) hk (fun j hj => absurd hj (by omega))
  obtain ⟨m, h1, h2, h3⟩ := h0 (x.length + 21) (by omega)
  simp only [Int.natCast_zero, Int.add_zero] at h1
  refine ⟨1 + x.length, m, by omega, fun k hk => ?_, fun k hk => ?_⟩
  · unfold laws_markStringS.f
    exact at_rounds (fun k => laws_markStringS.mono_l k _ _ _) hk h1
  · unfold laws_heldStringS.f
    have := sheld_loop f hf x.length hn m h2 h3 x.length k 0 (by omega) (by omega) (by omega)
    simp only [Int.natCast_zero, Int.add_zero] at this
    exact this

theorem FnExactSplitWords : laws_FnExactSplitWords.Pure := by
  intro s hs
  by_cases h : (s.size : Int) > 1048576
  · refine ⟨0, ?_⟩
    unfold laws_FnExactSplitWords.f
    rw [if_pos h]
  · have hz : s.size ≤ 1048576 := by omega
    have hl := size_list s
    have hc : ((cutAll 32 s.data.toList).map toB).length ≤ 1048577 := by
      rw [List.length_map]
      have := cutAll_length 32 s.data.toList
      omega
    have hs1 : ∀ k, 2000000 ≤ k → spec_SplitWords.f k s = some (((cutAll 32 s.data.toList).map toB).filter nz) := fun k hk => by
      unfold spec_SplitWords.f
      have := spec_split 32 s hz k (by omega)
      have e : (((32 : UInt8).toNat : Nat) : Int) = 32 := rfl
      rw [e] at this
      rw [this, Option.bind_some]
      have := (spec_words_loop _ hc _ 0 k [] (Nat.zero_add _) (by omega) (Nat.le_refl _)).1
      rw [List.drop_zero, List.nil_append] at this
      exact this
    have hs2 : ∀ k, 2000000 ≤ k → impl_SplitWords.f k s = some (((cutAll 32 s.data.toList).map toB).filter nz) := fun k hk => by
      unfold impl_SplitWords.f
      rw [impl_split 32 s hz, Option.bind_some]
      have := (spec_words_loop _ hc _ 0 k [] (Nat.zero_add _) (by omega) (Nat.le_refl _)).2
      rw [List.drop_zero, List.nil_append] at this
      exact this
    generalize hr : ((cutAll 32 s.data.toList).map toB).filter nz = r at hs1 hs2
    have hrl : r.length ≤ 1048577 := by
      rw [← hr]
      exact Nat.le_trans (List.length_filter_le _ _) hc
    obtain ⟨n, m, hn, a1, a2⟩ := smark_held r (by omega)
    obtain ⟨B, hB⟩ : ∃ B : Nat, 2000000 ≤ B := ⟨_, Nat.le_refl _⟩
    refine ⟨B, ?_⟩
    unfold laws_FnExactSplitWords.f
    rw [if_neg h, hs1 B hB, hs2 B hB]
    simp only [Option.bind_some]
    rw [eqStringS_self r (by omega) B (by omega), Option.bind_some, if_pos rfl, a1 B (by omega), Option.bind_some]
    dsimp only
    rw [a2 B (by omega), Option.bind_some, if_neg (by omega), if_pos rfl, Option.bind_some, if_pos rfl, Option.bind_some, if_neg (by omega), if_pos rfl]

end Go.Proofs.YtdegladckdnhiaaDoor.Pure
