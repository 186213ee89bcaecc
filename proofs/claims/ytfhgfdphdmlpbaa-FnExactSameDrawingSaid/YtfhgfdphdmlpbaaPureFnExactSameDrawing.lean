/- The plain law: what FnExactSameDrawing computes is true at every input. -/
import Derived.Test.YtfhgfdphdmlpbaaQFnExactSameDrawingx
namespace Go.Proofs.Ytfhgfdphdmlpbaa.Pure
open Go.RowKit Go.Proofs.Ytfhgfdphdmlpbaa.PFnExactSameDrawing Go.Proofs.YtfhgfdphdmlpbaaW.PrintWords Go.Proofs.YtfhgfdphdmlpbaaW.PrintLast Go.Proofs.YtfhgfdphdmlpbaaW.PrintMore
set_option linter.unusedVariables false
set_option linter.unusedSimpArgs false

theorem w64 {x : Int} (h1 : -9223372036854775808 ≤ x) (h2 : x ≤ 9223372036854775807) : wrap64 x = x := by
  unfold wrap64
  omega
theorem wf64 {n : Int} (h : (Lit.int .i64 n).wf = true) : -9223372036854775808 ≤ n ∧ n ≤ 9223372036854775807 := by
  simp [Lit.wf, IntKind.min, IntKind.max, IntKind.bits, IntKind.signed] at h
  omega
theorem toList_nil_iff (s : ByteArray) : s.toList = ([] : List UInt8) ↔ s.size = 0 := by
  rw [ByteArray.toList_eq, List.eq_nil_iff_length_eq_zero, data_length]

theorem rdN (p : List S51) (j : Nat) : rd_T51 p (j : Int) = p.getD j z51 := by
  unfold rd_T51
  rw [Int.toNat_natCast]
theorem tm1 {i n : Nat} (hn : n ≤ 4611686018427387904) (hi : i < n) : Int.tmod (wrap64 ((i : Int) + 1)) (n : Int) = (((i + 1) % n : Nat) : Int) := by
  rw [w64 (by omega) (by omega), Int.tmod_eq_emod_of_nonneg (by omega), Int.natCast_emod]
  rfl
theorem tm2 {i n : Nat} (hn : n ≤ 4611686018427387904) (hi : i < n) : Int.tmod (wrap64 ((i : Int) + 2)) (n : Int) = (((i + 2) % n : Nat) : Int) := by
  rw [w64 (by omega) (by omega), Int.tmod_eq_emod_of_nonneg (by omega), Int.natCast_emod]
  rfl
theorem w1 {i : Nat} (hi : i ≤ 4611686018427387904) : wrap64 ((i : Int) + 1) = ((i + 1 : Nat) : Int) := by
  rw [w64 (by omega) (by omega)]
  omega
theorem w2 {i : Nat} (hi : i ≤ 4611686018427387904) : wrap64 ((i : Int) + 2) = ((i + 2 : Nat) : Int) := by
  rw [w64 (by omega) (by omega)]
  omega

/-- The law's points as the program's. -/
def conv (l : List S53) : List S51 := l.map fun s => ⟨s.f0, s.f1⟩
theorem conv_length (l : List S53) : (conv l).length = l.length := by
  unfold conv
  rw [List.length_map]
theorem sz_small (l : List S53) (h : l.length ≤ 1048576) : laws_szPointS.f l 1048576 = some (1048576 - (l.length : Int)) := by
  unfold laws_szPointS.f
  rw [w64 (by omega) (by omega), if_neg (by omega)]
theorem sz_large (l : List S53) (hm : l.length ≤ 9223372036854775807) (h : 1048576 < l.length) : laws_szPointS.f l 1048576 = some (-1) := by
  unfold laws_szPointS.f
  rw [w64 (by omega) (by omega), if_pos (by omega)]
theorem rdLN (l : List S53) (j : Nat) : rd_T53 l (j : Int) = l.getD j z53 := by
  unfold rd_T53
  rw [Int.toNat_natCast]
theorem toPointS_loop (l : List S53) (h : l.length ≤ 1048576) : ∀ (d k i : Nat) (x : List S51), i ≤ l.length → l.length - i ≤ d → d < k → x.length = l.length → laws_toPointS.l0 k l x i = some (x.take i ++ (conv l).drop i)
  | d, 0, i, x, _, _, h2, _ => absurd h2 (by omega)
  | d, k + 1, i, x, h0, h1, h2, hx => by
    simp only [laws_toPointS.l0, laws_toPoint.f]
    by_cases hi : i < l.length
    · rw [if_pos (by omega), if_pos (by omega), Option.bind_some, if_pos (by omega), w1 (by omega), toPointS_loop l h (d - 1) k (i + 1) _ (by omega) (by omega) (by omega) (by rw [List.length_set, hx]), rdLN]
      have e : l.getD i z53 = l[i] := by
        rw [List.getD_eq_getElem?_getD, List.getElem?_eq_getElem hi]
        rfl
      rw [e, Int.toNat_natCast, List.take_succ_eq_append_getElem (by rw [List.length_set, hx]; exact hi), List.getElem_set_self, List.take_set_of_le (Nat.le_refl _), List.append_assoc]
      congr 2
      rw [List.drop_eq_getElem_cons (i := i) (by rw [conv_length]; exact hi)]
      unfold conv
      rw [List.getElem_map]
      rfl
    · rw [if_neg (by omega), List.take_of_length_le (by omega), List.drop_eq_nil_of_le (by rw [conv_length]; omega), List.append_nil]
theorem toPointS_eq (l : List S53) (h : l.length ≤ 1048576) (k : Nat) (hk : l.length < k) : laws_toPointS.f k l = some (conv l) := by
  unfold laws_toPointS.f
  rw [if_pos (by omega), if_pos (by omega)]
  have := toPointS_loop l h l.length k 0 (List.replicate ((l.length : Int) : Int).toNat z51) (by omega) (by omega) hk (by rw [List.length_replicate, Int.toNat_natCast])
  simp only [Int.natCast_zero] at this
  rw [this, List.take_zero, List.nil_append, List.drop_zero]
theorem eqPoint_self (x y : Int) : laws_eqPoint.f x y x y = some true := by
  unfold laws_eqPoint.f
  rw [if_pos rfl, if_pos rfl]
theorem eqPointS_loop (l : List S51) (h : l.length ≤ 1000000000) : ∀ (d k i : Nat), l.length - i ≤ d → d < k → laws_eqPointS.l0 k l l i = some true
  | d, 0, i, _, h2 => absurd h2 (by omega)
  | d, k + 1, i, h1, h2 => by
    simp only [laws_eqPointS.l0]
    by_cases hi : i < l.length
    · rw [if_pos (by omega), if_pos (by omega), if_pos (by omega), eqPoint_self, Option.bind_some, if_pos rfl, w1 (by omega)]
      exact eqPointS_loop l h (d - 1) k (i + 1) (by omega) (by omega)
    · rw [if_neg (by omega)]
theorem eqPointS_self (l : List S51) (h : l.length ≤ 1000000000) (k : Nat) (hk : l.length < k) : laws_eqPointS.f k l l = some true := by
  unfold laws_eqPointS.f
  rw [if_pos rfl]
  exact eqPointS_loop l h l.length k 0 (by omega) hk

theorem rd_nat (x : List Int) (j : Nat) : rd x (j : Int) = x.getD j 0 := by
  unfold rd
  rw [Int.toNat_natCast]
theorem w1' {i : Nat} (hi : i ≤ 4611686018427387904) : wrap64 ((i : Int) + 1) = ((i + 1 : Nat) : Int) := by
  rw [w64 (by omega) (by omega)]
  omega
theorem eqInt64S_loop (l : List Int) (h : l.length ≤ 1000000000) : ∀ (d k i : Nat), l.length - i ≤ d → d < k → laws_eqInt64S.l0 k l l i = some true
  | d, 0, i, _, h2 => absurd h2 (by omega)
  | d, k + 1, i, h1, h2 => by
    simp only [laws_eqInt64S.l0]
    by_cases hi : i < l.length
    · rw [if_pos (by omega), if_pos (by omega), if_pos (by omega), if_pos trivial, w1' (by omega)]
      exact eqInt64S_loop l h (d - 1) k (i + 1) (by omega) (by omega)
    · rw [if_neg (by omega)]
theorem eqInt64S_self (l : List Int) (h : l.length ≤ 1000000000) (k : Nat) (hk : l.length < k) : laws_eqInt64S.f k l l = some true := by
  unfold laws_eqInt64S.f
  rw [if_pos rfl]
  exact eqInt64S_loop l h l.length k 0 (by omega) hk

theorem rdLF_nat (l : List S78) (j : Nat) : rd_T78 l (j : Int) = l.getD j z78 := by
  unfold rd_T78
  rw [Int.toNat_natCast]
theorem rdF_nat (l : List S62) (j : Nat) : rd_T62 l (j : Int) = l.getD j z62 := by
  unfold rd_T62
  rw [Int.toNat_natCast]
/-- The law's faces as the program's. -/
def convF (l : List S78) : List S62 := l.map fun s => ⟨s.f0, s.f1⟩
theorem convF_length (l : List S78) : (convF l).length = l.length := by
  unfold convF
  rw [List.length_map]
/-- Names and rings are short. -/
def ShortF (l : List S78) : Prop := ∀ j, j < l.length → (l.getD j z78).f0.size ≤ 1048576 ∧ (l.getD j z78).f1.length ≤ 1048576
def GoodF (l : List S78) : Prop := ∀ x ∈ l, x.f0.size ≤ maxLen ∧ (x.f1.length ≤ maxLen ∧ ∀ y ∈ x.f1, (Lit.int .i64 y).wf = true)
theorem szFace_eq (s : ByteArray) (l : List Int) (hs : s.size ≤ 9223372036854775807) (hl : l.length ≤ 9223372036854775807) (a : Int) (h0 : 0 ≤ a) (h1 : a ≤ 1048576) :
    ∃ r, laws_szFace.f s l a = some r ∧ r ≤ 1048576 ∧ (0 ≤ r → s.size ≤ 1048576 ∧ l.length ≤ 1048576) := by
  unfold laws_szFace.f laws_szInt64S.f
  rw [w64 (x := a - (s.size : Int)) (by omega) (by omega)]
  by_cases c1 : a - (s.size : Int) < 0
  · rw [if_pos c1]
    exact ⟨-1, rfl, by omega, fun h => absurd h (by omega)⟩
  · rw [if_neg c1, w64 (x := a - (s.size : Int) - (l.length : Int)) (by omega) (by omega)]
    by_cases c2 : a - (s.size : Int) - (l.length : Int) < 0
    · rw [if_pos c2]
      exact ⟨-1, rfl, by omega, fun h => absurd h (by omega)⟩
    · rw [if_neg c2, Option.bind_some, if_neg c2]
      exact ⟨_, rfl, by omega, fun h => by omega⟩
theorem getD_memF (l : List S78) (i : Nat) (h : i < l.length) : l.getD i z78 ∈ l := by
  rw [List.getD_eq_getElem?_getD, List.getElem?_eq_getElem h]
  exact List.getElem_mem h
theorem szFaceS_loop (l : List S78) (hl : l.length ≤ 9223372036854775800) (hg : GoodF l) : ∀ (d k i : Nat) (a : Int), 0 ≤ a → a ≤ 1048576 → l.length - i ≤ d → d < k →
    ∃ r, laws_szFaceS.l0 k l a i = some r ∧ (0 ≤ r → ∀ j, i ≤ j → j < l.length → (l.getD j z78).f0.size ≤ 1048576 ∧ (l.getD j z78).f1.length ≤ 1048576)
  | d, 0, i, a, _, _, _, h => absurd h (by omega)
  | d, k + 1, i, a, h0, h1, h2, h3 => by
    simp only [laws_szFaceS.l0]
    by_cases hi : i < l.length
    · have hm := hg _ (getD_memF l i hi)
      unfold maxLen at hm
      obtain ⟨r, e1, e2, e3⟩ := szFace_eq (l.getD i z78).f0 (l.getD i z78).f1 (by omega) (by omega) a h0 h1
      rw [if_pos (by omega), if_pos (by omega), rdLF_nat, e1, Option.bind_some, w64 (x := (i : Int) + 1) (by omega) (by omega)]
      by_cases c : r < 0
      · rw [if_pos c]
        exact ⟨-1, rfl, fun h => absurd h (by omega)⟩
      · rw [if_neg c]
        obtain ⟨r', f1, f2⟩ := szFaceS_loop l hl hg (d - 1) k (i + 1) r (by omega) e2 (by omega) (by omega)
        refine ⟨r', f1, fun h j hj hj' => ?_⟩
        by_cases e : j = i
        · rw [e]
          exact e3 (by omega)
        · exact f2 h j (by omega) hj'
    · rw [if_neg (by omega)]
      exact ⟨a, rfl, fun _ j hj hj' => absurd hj' (by omega)⟩
/-- The measure of a drawing. -/
theorem szDrawing_eq (w h : Int) (pts : List S53) (fs : List S78) (hp : pts.length ≤ maxLen) (hl : fs.length ≤ maxLen) (hg : GoodF fs) (k : Nat) (hk : fs.length < k) :
    ∃ r, laws_szDrawing.f k w h pts fs 1048576 = some r ∧ (0 ≤ r → pts.length ≤ 1048576 ∧ fs.length ≤ 1048576 ∧ ShortF fs) := by
  unfold maxLen at hp hl
  unfold laws_szDrawing.f
  by_cases h1 : pts.length ≤ 1048576
  · rw [sz_small pts h1, Option.bind_some, if_neg (by omega)]
    unfold laws_szFaceS.f
    rw [w64 (x := 1048576 - (pts.length : Int) - (fs.length : Int)) (by omega) (by omega)]
    by_cases h2 : 1048576 - (pts.length : Int) - (fs.length : Int) < 0
    · rw [if_pos h2, Option.bind_some, if_pos (by omega)]
      exact ⟨-1, rfl, fun h => absurd h (by omega)⟩
    · rw [if_neg h2]
      obtain ⟨r, e1, e2⟩ := szFaceS_loop fs (by omega) hg fs.length k 0 (1048576 - (pts.length : Int) - (fs.length : Int)) (by omega) (by omega) (by omega) hk
      simp only [Int.natCast_zero] at e1
      rw [e1, Option.bind_some]
      by_cases c : r < 0
      · rw [if_pos c]
        exact ⟨-1, rfl, fun h => absurd h (by omega)⟩
      · rw [if_neg c]
        exact ⟨r, rfl, fun h => ⟨h1, by omega, fun j hj => e2 h j (Nat.zero_le _) hj⟩⟩
  · rw [sz_large pts (by omega) (by omega), Option.bind_some, if_pos (by omega)]
    exact ⟨-1, rfl, fun h => absurd h (by omega)⟩
theorem toInt64S_loop (l : List Int) (h : l.length ≤ 1048576) : ∀ (d k i : Nat) (x : List Int), i ≤ l.length → l.length - i ≤ d → d < k → x.length = l.length → laws_toInt64S.l0 k l x i = some (x.take i ++ l.drop i)
  | d, 0, i, x, _, _, h2, _ => absurd h2 (by omega)
  | d, k + 1, i, x, h0, h1, h2, hx => by
    simp only [laws_toInt64S.l0]
    by_cases hi : i < l.length
    · rw [if_pos (by omega), if_pos (by omega), if_pos (by omega), w1 (by omega), toInt64S_loop l h (d - 1) k (i + 1) _ (by omega) (by omega) (by omega) (by rw [List.length_set, hx]), rd_nat]
      have e : l.getD i 0 = l[i] := by
        rw [List.getD_eq_getElem?_getD, List.getElem?_eq_getElem hi]
        rfl
      rw [e, Int.toNat_natCast, List.take_succ_eq_append_getElem (by rw [List.length_set, hx]; exact hi), List.getElem_set_self, List.take_set_of_le (Nat.le_refl _), List.append_assoc]
      congr 1
      rw [List.drop_eq_getElem_cons hi]
      rfl
    · rw [if_neg (by omega), List.take_of_length_le (by omega), List.drop_eq_nil_of_le (by omega), List.append_nil]
theorem toInt64S_eq (l : List Int) (h : l.length ≤ 1048576) (k : Nat) (hk : l.length < k) : laws_toInt64S.f k l = some l := by
  unfold laws_toInt64S.f
  rw [if_pos (by omega), if_pos (by omega)]
  have := toInt64S_loop l h l.length k 0 (List.replicate ((l.length : Int) : Int).toNat 0) (by omega) (by omega) hk (by rw [List.length_replicate, Int.toNat_natCast])
  simp only [Int.natCast_zero] at this
  rw [this, List.take_zero, List.nil_append, List.drop_zero]
theorem toFaceS_loop (l : List S78) (h : l.length ≤ 1048576) (hs : ShortF l) (K : Nat) (hK : 1048576 < K) : ∀ (d k i : Nat) (x : List S62), i ≤ l.length → l.length - i ≤ d → d + K < k → x.length = l.length → laws_toFaceS.l0 k l x i = some (x.take i ++ (convF l).drop i)
  | d, 0, i, x, _, _, h2, _ => absurd h2 (by omega)
  | d, k + 1, i, x, h0, h1, h2, hx => by
    simp only [laws_toFaceS.l0, laws_toFace.f]
    by_cases hi : i < l.length
    · have e : l.getD i z78 = l[i] := by
        rw [List.getD_eq_getElem?_getD, List.getElem?_eq_getElem hi]
        rfl
      rw [if_pos (by omega), if_pos (by omega), rdLF_nat, toInt64S_eq _ (hs i hi).2 k (by have := (hs i hi).2; omega), Option.bind_some, Option.bind_some, if_pos (by omega), w1 (by omega)]
      have hd : d ≠ 0 := by omega
      rw [toFaceS_loop l h hs K hK (d - 1) k (i + 1) _ (by omega) (by omega) (by omega) (by rw [List.length_set, hx])]
      rw [e, Int.toNat_natCast, List.take_succ_eq_append_getElem (by rw [List.length_set, hx]; exact hi), List.getElem_set_self, List.take_set_of_le (Nat.le_refl _), List.append_assoc]
      congr 2
      rw [List.drop_eq_getElem_cons (i := i) (by rw [convF_length]; exact hi)]
      unfold convF
      rw [List.getElem_map]
      rfl
    · rw [if_neg (by omega), List.take_of_length_le (by omega), List.drop_eq_nil_of_le (by rw [convF_length]; omega), List.append_nil]
theorem toFaceS_eq (l : List S78) (h : l.length ≤ 1048576) (hs : ShortF l) (k : Nat) (hk : l.length + 1048577 < k) : laws_toFaceS.f k l = some (convF l) := by
  unfold laws_toFaceS.f
  rw [if_pos (by omega), if_pos (by omega)]
  have := toFaceS_loop l h hs 1048577 (by omega) l.length k 0 (List.replicate ((l.length : Int) : Int).toNat z62) (by omega) (by omega) (by omega) (by rw [List.length_replicate, Int.toNat_natCast])
  simp only [Int.natCast_zero] at this
  rw [this, List.take_zero, List.nil_append, List.drop_zero]
theorem toDrawing_eq (w h : Int) (pts : List S53) (fs : List S78) (hp : pts.length ≤ 1048576) (hl : fs.length ≤ 1048576) (hs : ShortF fs) (k : Nat) (hk : 3000000 ≤ k) : laws_toDrawing.f k w h pts fs = some (w, h, conv pts, convF fs) := by
  unfold laws_toDrawing.f
  rw [toPointS_eq pts hp k (by omega), Option.bind_some, toFaceS_eq fs hl hs k (by omega), Option.bind_some]
theorem eqFaceS_loop (l : List S62) (h : l.length ≤ 1048576) (hs : ∀ j, j < l.length → (l.getD j z62).f1.length ≤ 1048576) (K : Nat) (hK : 1048576 < K) : ∀ (d k i : Nat), l.length - i ≤ d → d + K < k → laws_eqFaceS.l0 k l l i = some true
  | d, 0, i, _, h2 => absurd h2 (by omega)
  | d, k + 1, i, h1, h2 => by
    simp only [laws_eqFaceS.l0, laws_eqFace.f]
    by_cases hi : i < l.length
    · have := hs i hi
      have hd : d ≠ 0 := by omega
      rw [if_pos (by omega), if_pos (by omega), if_pos (by omega), if_pos trivial, rdF_nat, eqInt64S_self _ (by omega) k (by omega), Option.bind_some, if_pos rfl, Option.bind_some, if_pos rfl, w1 (by omega)]
      exact eqFaceS_loop l h hs K hK (d - 1) k (i + 1) (by omega) (by omega)
    · rw [if_neg (by omega)]
theorem convF_getD (l : List S78) (j : Nat) : (convF l).getD j z62 = ⟨(l.getD j z78).f0, (l.getD j z78).f1⟩ := by
  unfold convF
  rw [List.getD_eq_getElem?_getD, List.getElem?_map, List.getD_eq_getElem?_getD]
  cases l[j]? <;> rfl
theorem eqDrawing_self (w h : Int) (pts : List S53) (fs : List S78) (hp : pts.length ≤ 1048576) (hl : fs.length ≤ 1048576) (hs : ShortF fs) (k : Nat) (hk : 3000000 ≤ k) : laws_eqDrawing.f k w h (conv pts) (convF fs) w h (conv pts) (convF fs) = some true := by
  unfold laws_eqDrawing.f laws_eqFaceS.f
  rw [if_pos rfl, if_pos rfl, eqPointS_self (conv pts) (by rw [conv_length]; omega) k (by rw [conv_length]; omega), Option.bind_some, if_pos rfl, if_pos rfl]
  have := eqFaceS_loop (convF fs) (by rw [convF_length]; exact hl) (fun j hj => by rw [convF_getD]; exact (hs j (by rw [convF_length] at hj; exact hj)).2) 1048577 (by omega) fs.length k 0 (by rw [convF_length]; omega) (by omega)
  simp only [Int.natCast_zero] at this
  rw [this]
  rfl

theorem szFaceS_loop2 (l : List S78) (hl : l.length ≤ 9223372036854775800) (hg : GoodF l) : ∀ (d k i : Nat) (a : Int), 0 ≤ a → a ≤ 1048576 → l.length - i ≤ d → d < k →
    ∃ r, laws_szFaceS.l0 k l a i = some r ∧ r ≤ 1048576 ∧ (0 ≤ r → ∀ j, i ≤ j → j < l.length → (l.getD j z78).f0.size ≤ 1048576 ∧ (l.getD j z78).f1.length ≤ 1048576)
  | d, 0, i, a, _, _, _, h => absurd h (by omega)
  | d, k + 1, i, a, h0, h1, h2, h3 => by
    simp only [laws_szFaceS.l0]
    by_cases hi : i < l.length
    · have hm := hg _ (getD_memF l i hi)
      unfold maxLen at hm
      obtain ⟨r, e1, e2, e3⟩ := szFace_eq (l.getD i z78).f0 (l.getD i z78).f1 (by omega) (by omega) a h0 h1
      rw [if_pos (by omega), if_pos (by omega), rdLF_nat, e1, Option.bind_some, w64 (x := (i : Int) + 1) (by omega) (by omega)]
      by_cases c : r < 0
      · rw [if_pos c]
        exact ⟨-1, rfl, by omega, fun h => absurd h (by omega)⟩
      · rw [if_neg c]
        obtain ⟨r', f1, f2, f3⟩ := szFaceS_loop2 l hl hg (d - 1) k (i + 1) r (by omega) e2 (by omega) (by omega)
        refine ⟨r', f1, f2, fun h j hj hj' => ?_⟩
        by_cases e : j = i
        · rw [e]
          exact e3 (by omega)
        · exact f3 h j (by omega) hj'
    · rw [if_neg (by omega)]
      exact ⟨a, rfl, h1, fun _ j hj hj' => absurd hj' (by omega)⟩
theorem szDrawing_any (w h : Int) (pts : List S53) (fs : List S78) (hp : pts.length ≤ maxLen) (hl : fs.length ≤ maxLen) (hg : GoodF fs) (a : Int) (a0 : 0 ≤ a) (a1 : a ≤ 1048576) (k : Nat) (hk : fs.length < k) :
    ∃ r, laws_szDrawing.f k w h pts fs a = some r ∧ r ≤ 1048576 ∧ (0 ≤ r → pts.length ≤ 1048576 ∧ fs.length ≤ 1048576 ∧ ShortF fs) := by
  unfold maxLen at hp hl
  unfold laws_szDrawing.f laws_szPointS.f
  rw [w64 (x := a - (pts.length : Int)) (by omega) (by omega)]
  by_cases h1 : a - (pts.length : Int) < 0
  · rw [if_pos h1, Option.bind_some, if_pos (by omega)]
    exact ⟨-1, rfl, by omega, fun h => absurd h (by omega)⟩
  · rw [if_neg h1, Option.bind_some, if_neg h1]
    unfold laws_szFaceS.f
    rw [w64 (x := a - (pts.length : Int) - (fs.length : Int)) (by omega) (by omega)]
    by_cases h2 : a - (pts.length : Int) - (fs.length : Int) < 0
    · rw [if_pos h2, Option.bind_some, if_pos (by omega)]
      exact ⟨-1, rfl, by omega, fun h => absurd h (by omega)⟩
    · rw [if_neg h2]
      obtain ⟨r, e1, e2, e3⟩ := szFaceS_loop2 fs (by omega) hg fs.length k 0 (a - (pts.length : Int) - (fs.length : Int)) (by omega) (by omega) (by omega) hk
      simp only [Int.natCast_zero] at e1
      rw [e1, Option.bind_some]
      by_cases c : r < 0
      · rw [if_pos c]
        exact ⟨-1, rfl, by omega, fun h => absurd h (by omega)⟩
      · rw [if_neg c]
        exact ⟨r, rfl, e2, fun h => ⟨by omega, by omega, fun j hj => e3 h j (Nat.zero_le _) hj⟩⟩
theorem pts_lock (a b : List S51) : ∀ (k : Nat) (i : Int), spec_l03Equal.l0 k a b i = impl_Point.l0 k a b (a.length : Int) i
  | 0, _ => rfl
  | k + 1, i => by
    simp only [spec_l03Equal.l0, impl_Point.l0, pts_lock a b k]
    by_cases h : i < (a.length : Int)
    · simp only [if_pos h]
    · simp only [if_neg h]
theorem pts_lock_f (a b : List S51) (k : Nat) : spec_l03Equal.f k a b = impl_Point.f k a b := by
  unfold spec_l03Equal.f impl_Point.f
  simp only [pts_lock]
theorem ints_lock (a b : List Int) : ∀ (k : Nat) (i : Int), spec_l00Same.l0 k a b i = impl_IntEq.l0 k a b i
  | 0, _ => rfl
  | k + 1, i => by simp only [spec_l00Same.l0, impl_IntEq.l0, ints_lock a b k]
theorem ints_lock_f (a b : List Int) (k : Nat) : spec_l00Same.f k a b = impl_IntEq.f k a b := by
  unfold spec_l00Same.f impl_IntEq.f
  simp only [ints_lock]
theorem faces_lock (a b : List S62) : ∀ (k : Nat) (i : Int), spec_l05Same.l0 k a b i = impl_FacesEq.l0 k a b i
  | 0, _ => rfl
  | k + 1, i => by
    simp only [spec_l05Same.l0, impl_FacesEq.l0, impl_FaceEq.f, ints_lock_f, faces_lock a b k]
    by_cases h : ((rd_T62 a i).f0).toList = ((rd_T62 b i).f0).toList
    · simp only [if_pos h]
    · simp only [if_neg h, Option.bind_some, Bool.false_eq_true, if_false]
theorem same_lock (w h : Int) (p : List S51) (f : List S62) (w' h' : Int) (p' : List S51) (f' : List S62) (k : Nat) : spec_SameDrawing.f k w h p f w' h' p' f' = impl_SameDrawing.f k w h p f w' h' p' f' := by
  unfold spec_SameDrawing.f spec_l05Same.f impl_SameDrawing.f impl_FacesEq.f
  simp only [pts_lock_f, faces_lock]
theorem pts_ends (a b : List S51) (hl : a.length = b.length) (hn : a.length ≤ 1048576) : ∀ (d k i : Nat), a.length - i ≤ d → d < k → ∃ r, spec_l03Equal.l0 k a b i = some r
  | d, 0, i, _, h => absurd h (by omega)
  | d, k + 1, i, h1, h2 => by
    simp only [spec_l03Equal.l0]
    by_cases hi : i < a.length
    · obtain ⟨r, hr⟩ := pts_ends a b hl hn (d - 1) k (i + 1) (by omega) (by omega)
      rw [if_pos (by omega), if_pos (by omega), if_pos (by omega), w1 (by omega), hr]
      split
      · exact ⟨_, rfl⟩
      · exact ⟨_, rfl⟩
    · rw [if_neg (by omega)]
      exact ⟨_, rfl⟩
theorem ints_ends (a b : List Int) (hl : a.length = b.length) (hn : a.length ≤ 1048576) : ∀ (d k i : Nat), a.length - i ≤ d → d < k → ∃ r, impl_IntEq.l0 k a b i = some r
  | d, 0, i, _, h => absurd h (by omega)
  | d, k + 1, i, h1, h2 => by
    simp only [impl_IntEq.l0]
    by_cases hi : i < a.length
    · obtain ⟨r, hr⟩ := ints_ends a b hl hn (d - 1) k (i + 1) (by omega) (by omega)
      rw [if_pos (by omega), if_pos (by omega), if_pos (by omega), w1 (by omega), hr]
      split
      · exact ⟨_, rfl⟩
      · exact ⟨_, rfl⟩
    · rw [if_neg (by omega)]
      exact ⟨_, rfl⟩
theorem ints_total (a b : List Int) (hn : a.length ≤ 1048576) (k : Nat) (hk : 1048577 ≤ k) : ∃ r, impl_IntEq.f k a b = some r := by
  unfold impl_IntEq.f
  by_cases h : (a.length : Int) = b.length
  · obtain ⟨r, hr⟩ := ints_ends a b (by omega) hn a.length k 0 (by omega) (by omega)
    simp only [Int.natCast_zero] at hr
    rw [if_pos h]
    exact ⟨r, hr⟩
  · rw [if_neg h]
    exact ⟨_, rfl⟩
theorem faces_ends (a b : List S62) (hl : a.length = b.length) (hn : a.length ≤ 1048576) (hs : ∀ j, j < a.length → (a.getD j z62).f1.length ≤ 1048576) : ∀ (d k i : Nat), a.length - i ≤ d → d + 1048577 < k → ∃ r, impl_FacesEq.l0 k a b i = some r
  | d, 0, i, _, h => absurd h (by omega)
  | d, k + 1, i, h1, h2 => by
    simp only [impl_FacesEq.l0, impl_FaceEq.f]
    by_cases hi : i < a.length
    · have hd : d ≠ 0 := by omega
      obtain ⟨r, hr⟩ := faces_ends a b hl hn hs (d - 1) k (i + 1) (by omega) (by omega)
      rw [if_pos (by omega), if_pos (by omega), if_pos (by omega), w1 (by omega), hr, rdF_nat, rdF_nat]
      obtain ⟨t, ht⟩ := ints_total (a.getD i z62).f1 (b.getD i z62).f1 (hs i hi) k (by omega)
      rw [ht]
      split
      · rw [Option.bind_some]
        split
        · exact ⟨_, rfl⟩
        · exact ⟨_, rfl⟩
      · rw [Option.bind_some]
        exact ⟨_, rfl⟩
    · rw [if_neg (by omega)]
      exact ⟨_, rfl⟩
theorem same_total (w h : Int) (p : List S51) (f : List S62) (w' h' : Int) (p' : List S51) (f' : List S62) (hp : p.length ≤ 1048576) (hf : f.length ≤ 1048576) (hs : ∀ j, j < f.length → (f.getD j z62).f1.length ≤ 1048576) (k : Nat) (hk : 3000000 ≤ k) : ∃ r, impl_SameDrawing.f k w h p f w' h' p' f' = some r := by
  unfold impl_SameDrawing.f impl_FacesEq.f
  rw [← pts_lock_f]
  have hq : ∃ t, spec_l03Equal.f k p p' = some t := by
    unfold spec_l03Equal.f
    by_cases e : (p.length : Int) = p'.length
    · obtain ⟨r, hr⟩ := pts_ends p p' (by omega) hp p.length k 0 (by omega) (by omega)
      simp only [Int.natCast_zero] at hr
      rw [if_pos e]
      exact ⟨r, hr⟩
    · rw [if_neg e]
      exact ⟨_, rfl⟩
  obtain ⟨t, ht⟩ := hq
  rw [ht, Option.bind_some]
  by_cases c1 : w = w'
  · rw [if_pos c1]
    by_cases c2 : h = h'
    · rw [if_pos c2]
      cases t with
      | false => exact ⟨false, rfl⟩
      | true =>
        rw [if_pos rfl]
        by_cases c3 : (f.length : Int) = f'.length
        · obtain ⟨r, hr⟩ := faces_ends f f' (by omega) hf hs f.length k 0 (by omega) (by omega)
          simp only [Int.natCast_zero] at hr
          rw [if_pos c3]
          exact ⟨r, hr⟩
        · rw [if_neg c3]
          exact ⟨_, rfl⟩
    · rw [if_neg c2]
      exact ⟨_, rfl⟩
  · rw [if_neg c1]
    exact ⟨_, rfl⟩
theorem FnExactSameDrawing (w h : Int) (pts : List S53) (fs : List S78) (w' h' : Int) (pts' : List S53) (fs' : List S78) (_ : (Lit.int .i64 w).wf = true) (_ : (Lit.int .i64 h).wf = true) (hp : pts.length ≤ maxLen) (hpg : ∀ x ∈ pts, (Lit.int .i64 x.f0).wf = true ∧ (Lit.int .i64 x.f1).wf = true) (hf : fs.length ≤ maxLen) (hg : ∀ x ∈ fs, x.f0.size ≤ maxLen ∧ (x.f1.length ≤ maxLen ∧ ∀ y ∈ x.f1, (Lit.int .i64 y).wf = true)) (_ : (Lit.int .i64 w').wf = true) (_ : (Lit.int .i64 h').wf = true) (hp' : pts'.length ≤ maxLen) (hpg' : ∀ x ∈ pts', (Lit.int .i64 x.f0).wf = true ∧ (Lit.int .i64 x.f1).wf = true) (hf' : fs'.length ≤ maxLen) (hg' : ∀ x ∈ fs', x.f0.size ≤ maxLen ∧ (x.f1.length ≤ maxLen ∧ ∀ y ∈ x.f1, (Lit.int .i64 y).wf = true)) : ∃ k, laws_FnExactSameDrawing.f k w h pts fs w' h' pts' fs' = some true := by
  obtain ⟨k, hk⟩ : ∃ k : Nat, fs.length + fs'.length + 3000000 ≤ k := ⟨_, Nat.le_refl _⟩
  refine ⟨k, ?_⟩
  unfold laws_FnExactSameDrawing.f
  obtain ⟨r, e1, e2, e3⟩ := szDrawing_any w h pts fs hp hf hg 1048576 (by omega) (by omega) k (by omega)
  rw [e1, Option.bind_some]
  by_cases c : r < 0
  · rw [if_pos c]
  · rw [if_neg c]
    obtain ⟨h1, h2, h3⟩ := e3 (by omega)
    obtain ⟨r', g1, _, g3⟩ := szDrawing_any w' h' pts' fs' hp' hf' hg' r (by omega) e2 k (by omega)
    rw [g1, Option.bind_some]
    by_cases c' : r' < 0
    · rw [if_pos c']
    · rw [if_neg c']
      obtain ⟨h1', h2', h3'⟩ := g3 (by omega)
      rw [toDrawing_eq w h pts fs h1 h2 h3 k (by omega), toDrawing_eq w' h' pts' fs' h1' h2' h3' k (by omega)]
      simp only [Option.bind_some]
      obtain ⟨b, hb⟩ := same_total w h (conv pts) (convF fs) w' h' (conv pts') (convF fs') (by rw [conv_length]; exact h1) (by rw [convF_length]; exact h2) (fun j hj => by rw [convF_getD]; exact (h3 j (by rw [convF_length] at hj; exact hj)).2) k (by omega)
      rw [same_lock, hb]
      simp only [Option.bind_some, bne_self_eq_false, Bool.false_eq_true, if_false]
      rw [eqDrawing_self w h pts fs h1 h2 h3 k (by omega), Option.bind_some, if_pos rfl, eqDrawing_self w' h' pts' fs' h1' h2' h3' k (by omega)]
      rfl

end Go.Proofs.Ytfhgfdphdmlpbaa.Pure
