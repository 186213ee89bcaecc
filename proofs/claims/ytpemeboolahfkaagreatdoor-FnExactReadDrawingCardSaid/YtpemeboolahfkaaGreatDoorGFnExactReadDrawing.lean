/- What the library's contracts ask of the world's package variables, and the contracts as the walks take them. -/
import Derived.Test.YtpemeboolahfkaaGreatDoorShelf
import Derived.Test.YtpemeboolahfkaaGreatDoorVFnExactReadDrawing
import Derived.Lib.LaidTab
import Derived.Lib.SplitLaws
import Derived.Below
namespace Go.Proofs.YtpemeboolahfkaaGreatDoor
open Go Go.RowKit Go.Proofs.YtpemeboolahfkaaGreatDoorW.PrintWords
theorem tab_below {P : Program} {w w' : World} {nm : String} {k : IntKind} {zs : List Int} (h : Lib.TabIs P w nm k zs) (hb : Below w.heap.size w w') : Lib.TabIs P w' nm k zs := by
  unfold Lib.TabIs World.var? at h ⊢
  obtain ⟨g, hg, h⟩ := Option.bind_eq_some_iff.mp h
  refine Option.bind_eq_some_iff.mpr ⟨g, hg, ?_⟩
  have hlt : g < w.heap.size := by
    by_cases hlt : g < w.heap.size
    · exact hlt
    · rw [Array.getElem?_eq_none (by omega)] at h; cases h
  rw [hb.block g hlt]
  exact h
theorem size_lit1 (b : UInt8) : (⟨#[b]⟩ : ByteArray).size = 1 := rfl
/-- The variable of the library's that Split and Cut read holds some number. -/
def MaxW (w : World) : Prop := ∃ m, w.cell? ⟨0, 0, none⟩ = some (.int .i64 m)
def GlobW (w : World) : Prop := Lib.TabIs Tryz.prog w "internal/strconv.uint64pow10" .u64 Lib.pow10Tab ∧ MaxW w
theorem cell_lt {w : World} {g o : Nat} {v : Value} (h : w.cell? ⟨g, o, none⟩ = some v) : g < w.heap.size := by
  by_cases hlt : g < w.heap.size
  · exact hlt
  · exfalso
    unfold World.cell? at h
    rw [Array.getElem?_eq_none (by show _ ≤ g; omega)] at h
    simp at h
theorem MaxW.step {w w' : World} (h : MaxW w) (hb : Below w.heap.size w w') : MaxW w' := by
  obtain ⟨m, hm⟩ := h
  exact ⟨m, by rw [hb.cell (p := ⟨0, 0, none⟩) (cell_lt hm)]; exact hm⟩
theorem GlobW.step {w w' : World} (h : GlobW w) (hb : Below w.heap.size w w') : GlobW w' := ⟨tab_below h.1 hb, h.2.step hb⟩
theorem MaxW.max {w : World} (h : MaxW w) : MaxW w := h
theorem GlobW.max {w : World} (h : GlobW w) : MaxW w := h.2
theorem below_grow_drewN (w : World) (k : Nat) (os : Array Obj) : Below w.heap.size w (Go.Sort.grow (w.drewN k) os) :=
  ⟨rfl, rfl, rfl, by simp, fun i hi => by rw [Go.Sort.heap_grow_old (w.drewN k) os (by exact hi)]; rfl⟩
theorem format_int (a0 : Int) (h0 : -9223372036854775808 ≤ a0) (h1 : a0 ≤ 9223372036854775807) (w : World) (HT : GlobW w) :
    Calls Tryz.prog 58 #[.int .i64 a0, .int .i64 10] w fun e w' => e = .returned (.string ⟨(Lib.itoa a0).toArray⟩) ∧ Below w.heap.size w w' := by
  refine (Tryz.strconv_FormatInt_10 a0 h0 h1 w HT.1).mono ?_
  rintro e w' ⟨rfl, k, os, rfl⟩
  exact ⟨rfl, below_grow_drewN _ _ _⟩
theorem split_any (a0 a1 : ByteArray) (h1 : 1 ≤ a1.size) (h0 : a0.size < 4294967281) (w : World) (HM : MaxW w) :
    Calls Tryz.prog 10 #[.string a0, .string a1] w fun e w' => e = .returned (.slice (some ⟨w.heap.size, 0, none⟩) (Lib.splitB a1 0 (Lib.countB a0 a1) a0).length (Lib.splitB a1 0 (Lib.countB a0 a1) a0).length) ∧
      Kd.R Kd.string 9 w' w.heap.size (fun _ => True) (.slice (some ⟨w.heap.size, 0, none⟩) (Lib.splitB a1 0 (Lib.countB a0 a1) a0).length (Lib.splitB a1 0 (Lib.countB a0 a1) a0).length) (Lib.splitB a1 0 (Lib.countB a0 a1) a0) ∧ Below w.heap.size w w' := by
  obtain ⟨m, hm⟩ := HM
  have hl : (Lib.splitB a1 0 (Lib.countB a0 a1) a0).length = Lib.countB a0 a1 + 1 := Lib.splitB_all a1 h1 0 _ a0 rfl
  have hc : Lib.countB a0 a1 ≤ a0.size := Lib.countB_le a1 h1 _ a0 (Nat.le_refl _)
  refine (Tryz.strings_Split a0 a1 m w h0 hm h1).mono ?_
  rintro e w' ⟨rfl, rfl⟩
  refine ⟨by rw [hl], ?_, (Below.refl _ w).alloc (Nat.le_refl _) _⟩
  refine Kd.R_of_own (xs := Lib.splitB a1 0 (Lib.countB a0 a1) a0) ⟨by simp [encs], .inr ⟨w.heap.size, _, ((Lib.splitB a1 0 (Lib.countB a0 a1) a0).map Value.string).toArray, rfl, Nat.le_refl _, by show (w.heap.push _)[w.heap.size]? = _; rw [Array.getElem?_push_size], Nat.le_refl _, by unfold maxLen; omega, by simp, by simp only [encs, Nat.mul_one]; exact List.take_of_length_le (by simp)⟩⟩ (fun _ _ => trivial)
theorem cut_any (a0 a1 : ByteArray) (h0 : a0.size < 4294967281) (w : World) (HM : MaxW w) :
    Calls Tryz.prog 13 #[.string a0, .string a1] w fun e w' => e = .returned (.tuple #[.string ⟨(Lib.cut a0.data.toList a1.data.toList).1.toArray⟩, .string ⟨(Lib.cut a0.data.toList a1.data.toList).2.1.toArray⟩, .bool (Lib.cut a0.data.toList a1.data.toList).2.2]) ∧ ∃ n, w' = w.drewN n := by
  obtain ⟨m, hm⟩ := HM
  exact Tryz.strings_Cut a0 a1 m w h0 hm
/-- An address of a whole block's own. -/
def PlainAt (A : Option Addr) : Prop := ∀ ad, A = some ad → ∃ g, ad = ⟨g, 0, none⟩
theorem plainAt_of {d : Kd ByteArray} {e base n cap : Nat} {ok : Nat → Prop} {w : World} {A : Option Addr} {xs : List ByteArray} (h : d.R e w base ok (.slice A n cap) xs) : PlainAt A := by
  intro ad e
  subst e
  exact Kd.R_head h
theorem join_any (A0 : Option Addr) (c0 : Nat) (l0 : List ByteArray) (a1 : ByteArray) (w : World) (hr0 : Kd.C Kd.string w A0 l0.length l0) (hc0 : l0.length ≤ c0) (hf0 : PlainAt A0) (h1 : l0.length ≤ 140737488355328) (h2 : (Lib.join (l0.map (·.data.toList)) a1.data.toList).length ≤ 140737488355328) :
    Calls Tryz.prog 35 #[.slice A0 l0.length c0, .string a1] w fun e w' => e = .returned (.string ⟨(Lib.join (l0.map (·.data.toList)) a1.data.toList).toArray⟩) ∧ Below w.heap.size w w' := by
  by_cases h : l0.length = 0
  · have : l0 = [] := List.length_eq_zero_iff.1 h
    subst this
    refine (Tryz.strings_Join_none A0 c0 a1 w).mono ?_
    rintro e w' ⟨rfl, rfl⟩
    exact ⟨rfl, Below.refl _ _⟩
  · obtain ⟨ad, e, hz⟩ := Kd.at_string hr0 0 (by omega) (by omega)
    obtain ⟨g, rfl⟩ := hf0 ad e
    subst e
    have hcells : ∀ (j : Nat) x, l0[j]? = some x → w.cell? ⟨g, 0 + j, none⟩ = some (.string x) := by
      intro j x hj
      have hlt := (List.getElem?_eq_some_iff.1 hj).1
      obtain ⟨ad, e, hc⟩ := Kd.at_string hr0 (j : Int) (by omega) (by omega)
      injection e with e
      subst e
      have hx : rdOf ByteArray.empty l0 (j : Int) = x := by
        unfold rdOf
        rw [Int.toNat_natCast, List.getD_eq_getElem?_getD, hj]
        rfl
      rw [hx] at hc
      rw [← hc, Int.toNat_natCast]
      congr 1
      unfold Addr.add
      split
      · rename_i h0; subst h0; rfl
      · simp
    refine Tryz.strings_Join g 0 c0 l0 a1 w hcells (cell_lt (hcells 0 _ (List.getElem?_eq_getElem (by omega)))) h1 hc0 h2
end Go.Proofs.YtpemeboolahfkaaGreatDoor
