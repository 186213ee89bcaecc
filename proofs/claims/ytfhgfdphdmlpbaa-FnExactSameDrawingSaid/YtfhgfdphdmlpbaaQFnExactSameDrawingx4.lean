/- Contracts of functions that FnExactSameDrawing reaches, out of the lines of the kit's print. -/
import Derived.Test.YtfhgfdphdmlpbaaQFnExactSameDrawingx0
import Derived.Test.YtfhgfdphdmlpbaaQFnExactSameDrawingx3
namespace Go.Proofs.Ytfhgfdphdmlpbaa.PFnExactSameDrawing
open Go.RowKit Go.Proofs.YtfhgfdphdmlpbaaW.PrintWords Go.Proofs.YtfhgfdphdmlpbaaW.PrintLast Go.Proofs.YtfhgfdphdmlpbaaW.PrintMore
open Bool renaming true → tT, false → fF
open Go.World renaming block_lt_of_cell? → bL
attribute [local go_sem] max2_int min2_int max_two min_two max_three min_three max_four min_four
set_option linter.unusedVariables false
set_option linter.unusedSimpArgs false
def impl_IntEq.l0 : Nat → List Int → List Int → Int → Option (Bool)
 | 0, _, _, _ => none
 | k + 1, x0, x1, x13 => if x13 < (x0.length : Int) then (if 0 ≤ x13 then (if x13 < (x1.length : Int) then (if (rd x0 x13) = (rd x1 x13) then (impl_IntEq.l0 k x0 x1 (wrap64 (x13 + 1))) else (some false)) else (none)) else (none)) else (some true)
def impl_IntEq.f (k : Nat) (l0 : List Int) (l1 : List Int) : Option (Bool) := if (l0.length : Int) = (l1.length : Int) then (impl_IntEq.l0 k l0 l1 0) else (some false)
theorem impl_IntEq.mono_l : ∀ k, (∀ y0 y1 y2, LeO (impl_IntEq.l0 k y0 y1 y2) (impl_IntEq.l0 (k + 1) y0 y1 y2))
 | 0 => fun _ _ _ r h => by simp [impl_IntEq.l0] at h
 | k + 1 => by
  have ih0 := impl_IntEq.mono_l k
  ·intro y0 y1 y2
   unfold impl_IntEq.l0
   repeat' first
   | (with_reducible exact ih0 _ _ _)
   | (with_reducible exact LeO.refl _)
   | (with_reducible exact LeO.none _)
   | (with_reducible refine LeO.ite ?_ ?_)
   | exact ih0 _ _ _
   | refine LeO.ite ?_ ?_
theorem impl_IntEq.mono : ∀ a0 a1 k, LeO (impl_IntEq.f k a0 a1) (impl_IntEq.f (k + 1) a0 a1) := by
 intro a0 a1 k
 have ih0 := impl_IntEq.mono_l k
 unfold impl_IntEq.f
 repeat' first
   | (with_reducible exact ih0 _ _ _)
   | (with_reducible exact LeO.refl _)
   | (with_reducible refine LeO.ite ?_ ?_)
   | exact ih0 _ _ _
   | refine LeO.ite ?_ ?_
set_option maxHeartbeats 8000000 in
set_option maxRecDepth 100000 in
theorem impl_IntEq.calls (k : Nat) (A0 : Option Addr) (c0 : Nat) (l0 : List Int) (A1 : Option Addr) (c1 : Nat) (l1 : List Int) (r : Bool) (w : World) (hr0 : Kd.C (Kd.int .i64) w A0 l0.length l0) (hr1 : Kd.C (Kd.int .i64) w A1 l1.length l1) (h : impl_IntEq.f k l0 l1 = some r) :
  Calls Try.prog 39 #[.slice A0 l0.length c0, .slice A1 l1.length c1] w fun e w' => e = .returned (.bool r) ∧ Drawn0 w w' := by
 have HR0 := Aside0.mk hr0
 have HR1 := Aside0.mk hr1
 clear hr0 hr1
 have H : (if (l0.length : Int) = (l1.length : Int) then (impl_IntEq.l0 k l0 l1 0) else (some false)) = some r := h
 clear h
 by_cases c3 : (l0.length : Int) = (l1.length : Int)
 ·rw [if_pos c3] at H
  have c3b0 : ((l0.length : Int) == (l1.length : Int)) = true := beq_iff_eq.mpr c3
  have c3b1 : ((l0.length : Int) != (l1.length : Int)) = false := bne_eq_false_iff_eq.mpr c3
  have c3b2 : (l0.length == l1.length) = true := by first | simpa using c3 | (simp at c3 ⊢; omega)
  clear c3
  have H' := Aside0.mk H
  clear H
  go_enter Try.func39, Try.ntmps39
  go_wp2
  repeat (go_quiet (fail); try go_wp2)
  go_loopg [13] k (fun kq v13 w' => ∃ (x13_1 : Int), v13 = .int .i64 x13_1 ∧ Aside0 (impl_IntEq.l0 kq l0 l1 x13_1 = some r) ∧ Aside0 (kq ≤ k) ∧ Drawn0 w w')
  case atStart => exact ⟨(0), (by first | rfl | (simp; done) | (simp [*]; done)), H', ⟨Nat.le_refl _⟩, by repeat (first | exact Drawn0.refl _ | apply Drawn0.step)⟩
  case round =>
   clear H'
   try clear c3b0
   try clear c3b1
   try clear c3b2
   obtain ⟨x13_1, rfl, HA, HK1, ⟨m1, rfl⟩⟩ := hrel
   cases gk with
   | zero => exact absurd HA.out (by simp [impl_IntEq.l0])
   | succ k1 =>
    have H := HA.out
    clear HA
    simp only [impl_IntEq.l0] at H
    by_cases c4 : x13_1 < (l0.length : Int)
    ·rw [if_pos c4] at H
     have c4b0 : decide (x13_1 < (l0.length : Int)) = true := decide_eq_true c4
     by_cases c5 : 0 ≤ x13_1
     ·rw [if_pos c5] at H
      have c5b0 : decide (0 ≤ x13_1) = true := decide_eq_true c5
      by_cases c7 : x13_1 < (l1.length : Int)
      ·rw [if_pos c7] at H
       have c7b0 : decide (x13_1 < (l1.length : Int)) = true := decide_eq_true c7
       obtain ⟨ad153, e153, hx153⟩ := Kd.at_int HR0.out x13_1 c5 c4
       cases e153
       obtain ⟨ad154, e154, hx154⟩ := Kd.at_int HR1.out x13_1 c5 c7
       cases e154
       have p1 := eq_true c5
       have p2 := eq_true c4
       have p3 := eq_true c7
       clear c4 c5 c7
       by_cases c8 : (rd l0 x13_1) = (rd l1 x13_1)
       ·rw [if_pos c8] at H
        have c8b0 : ((rd l0 x13_1) == (rd l1 x13_1)) = true := beq_iff_eq.mpr c8
        have c8b1 : ((rd l0 x13_1) != (rd l1 x13_1)) = false := bne_eq_false_iff_eq.mpr c8
        clear c8
        have H' := Aside0.mk H
        clear H
        go_wp2
        repeat (go_quiet (fail); try go_wp2)
        go_roundg k1
        case measure => have := HK1.out; omega
        case rel => exact ⟨(wrap64 (x13_1 + 1)), (by first | rfl | (simp; done) | (simp [*]; done)), H', ⟨by have := HK1.out; omega⟩, by repeat (first | exact Drawn0.refl _ | apply Drawn0.step)⟩
       ·rw [if_neg c8] at H
        have c8b0 : ((rd l0 x13_1) == (rd l1 x13_1)) = false := beq_eq_false_iff_ne.mpr c8
        have c8b1 : ((rd l0 x13_1) != (rd l1 x13_1)) = true := bne_iff_ne.mpr c8
        clear c8
        obtain rfl := Option.some.inj H
        go_wp2
        repeat (go_quiet (fail); try go_wp2)
        go_ret
        exact ⟨by first | rfl | (simp; done) | (simp [*]; done), by repeat (first | exact Drawn0.refl _ | apply Drawn0.step)⟩
      ·rw [if_neg c7] at H
       exact absurd H (by simp)
     ·rw [if_neg c5] at H
      exact absurd H (by simp)
    ·rw [if_neg c4] at H
     have c4b0 : decide (x13_1 < (l0.length : Int)) = false := decide_eq_false c4
     clear c4
     obtain rfl := Option.some.inj H
     go_wp2
     repeat (go_quiet (fail); try go_wp2)
     go_ret
     exact ⟨by first | rfl | (simp; done) | (simp [*]; done), by repeat (first | exact Drawn0.refl _ | apply Drawn0.step)⟩
 ·rw [if_neg c3] at H
  have c3b0 : ((l0.length : Int) == (l1.length : Int)) = false := beq_eq_false_iff_ne.mpr c3
  have c3b1 : ((l0.length : Int) != (l1.length : Int)) = true := bne_iff_ne.mpr c3
  have c3b2 : (l0.length == l1.length) = false := by first | simpa using c3 | (simp at c3 ⊢; omega)
  obtain rfl := Option.some.inj H
  go_enter Try.func39, Try.ntmps39
  go_wp2
  repeat (go_quiet (fail); try go_wp2)
  go_ret
  exact ⟨by first | rfl | (simp; done) | (simp [*]; done), by repeat (first | exact Drawn0.refl _ | apply Drawn0.step)⟩
theorem mz9_ {W w1 : World} {g : Nat} {o : Obj} (_hb : Below W.heap.size W w1) (h : W.heap[g]? = some o) : W.heap[g]? = some o := h
def impl_FaceEq.f (k : Nat) (a0 : ByteArray) (a1 : List Int) (b0 : ByteArray) (b1 : List Int) : Option (Bool) := if a0.toList = b0.toList then (impl_IntEq.f k a1 b1) else (some false)
theorem impl_FaceEq.mono : ∀ a0 a1 b0 b1 k, LeO (impl_FaceEq.f k a0 a1 b0 b1) (impl_FaceEq.f (k + 1) a0 a1 b0 b1) := by
 intro a0 a1 b0 b1 k
 unfold impl_FaceEq.f
 exact LeO.ite (impl_IntEq.mono _ _ _) (LeO.refl _)
set_option maxHeartbeats 8000000 in
set_option maxRecDepth 100000 in
theorem impl_FaceEq.calls (k : Nat) (a0 : ByteArray) (A1 : Option Addr) (c1 : Nat) (a1 : List Int) (b0 : ByteArray) (B1 : Option Addr) (d1 : Nat) (b1 : List Int) (r : Bool) (w : World) (hr0 : Kd.C (Kd.int .i64) w A1 a1.length a1) (hr1 : Kd.C (Kd.int .i64) w B1 b1.length b1) (h : impl_FaceEq.f k a0 a1 b0 b1 = some r) :
  Calls Try.prog 38 #[.agg #[.string a0, .slice A1 a1.length c1], .agg #[.string b0, .slice B1 b1.length d1]] w fun e w' => e = .returned (.bool r) ∧ Below w.heap.size w w' := by
 have hu62 := Try.underlying62
 have HR0 := Aside0.mk hr0
 have HR1 := Aside0.mk hr1
 have HB := Aside0.mk (Below.refl w.heap.size w)
 have H : (if a0.toList = b0.toList then (impl_IntEq.f k a1 b1) else (some false)) = some r := h
 clear hr0 hr1 h
 by_cases c3 : a0.toList = b0.toList
 ·rw [if_pos c3] at H
  have c3b0 : (a0.toList == b0.toList) = true := beq_iff_eq.mpr c3
  have c3b1 : (a0.toList != b0.toList) = false := bne_eq_false_iff_eq.mpr c3
  clear c3
  have A1_ := Aside0.mk H
  clear H
  go_enter Try.func38, Try.ntmps38
  go_wp2_with (first | ((with_reducible refine gate_dst (N := 2) rfl ?_); refine bx (cs := #[.string a0, .slice A1 a1.length c1]) (t := 62) ?_; intro ga hg w2_ hbox hb; have n1_ := sb hb; have n2_ := Aside0.mk hbox; clear HB ; have HB := n1_; have BKga := n2_; clear n1_ n2_ hb hbox hg; have qga_0 : w2_.cell? ⟨ga, 0, none⟩ = some (.string a0) := (blk_cell BKga.out 0).trans rfl; have qga_1 : w2_.cell? ⟨ga, 1, none⟩ = some (.slice A1 a1.length c1) := (blk_cell BKga.out 1).trans rfl) | ((with_reducible refine gate_dst (N := 3) rfl ?_); refine bx (cs := #[.string b0, .slice B1 b1.length d1]) (t := 62) ?_; intro gb hg w3_ hbox hb; have m0_ := Aside0.mk (blk_below (g := ga) (o := .cells #[.string a0, .slice A1 a1.length c1] 62 (0, 0)) (by (with_reducible repeat (first | refine blk_drewN ?_ _ | refine blk_drew ?_ | refine blk_alloc ?_ _)); exact BKga.out) hb); have n1_ := sb hb; have n2_ := Aside0.mk hbox; clear HB BKga; have HB := n1_; have BKgb := n2_; clear n1_ n2_ hb hbox hg; have BKga := m0_; clear m0_; have qga_0 : w3_.cell? ⟨ga, 0, none⟩ = some (.string a0) := (blk_cell BKga.out 0).trans rfl; have qga_1 : w3_.cell? ⟨ga, 1, none⟩ = some (.slice A1 a1.length c1) := (blk_cell BKga.out 1).trans rfl; have qgb_0 : w3_.cell? ⟨gb, 0, none⟩ = some (.string b0) := (blk_cell BKgb.out 0).trans rfl; have qgb_1 : w3_.cell? ⟨gb, 1, none⟩ = some (.slice B1 b1.length d1) := (blk_cell BKgb.out 1).trans rfl) | ((with_reducible refine gate_callee (f := 39) rfl ?_); refine goesL_ _ rfl rfl Try.func39 (by kernel_rfl) rfl #[.slice A1 a1.length c1, .slice B1 b1.length d1] rfl (by (try simp only [List.map_toArray, List.map_cons, List.map_nil]); first | done | rfl) ?_; (with_reducible refine (impl_IntEq.calls k A1 c1 a1 B1 d1 b1 r _ (Kd.C_below HR0.out ib) (Kd.C_below HR1.out ib) A1_.out).mono ?_); rintro e w5 ⟨rfl, ⟨nd, rfl⟩⟩; refine ⟨_, rfl, ?_⟩) | (go_at_call 39; (with_reducible refine (impl_IntEq.calls k A1 c1 a1 B1 d1 b1 r _ (Kd.C_below HR0.out ib) (Kd.C_below HR1.out ib) A1_.out).mono ?_); rintro e w5 ⟨rfl, ⟨nd, rfl⟩⟩))
  go_ret
  exact ⟨by first | rfl | (simp; done) | (simp [*]; done), ib⟩
 ·rw [if_neg c3] at H
  have c3b0 : (a0.toList == b0.toList) = false := beq_eq_false_iff_ne.mpr c3
  have c3b1 : (a0.toList != b0.toList) = true := bne_iff_ne.mpr c3
  clear c3
  obtain rfl := Option.some.inj H
  go_enter Try.func38, Try.ntmps38
  go_wp2_with (first | ((with_reducible refine gate_dst (N := 2) rfl ?_); refine bx (cs := #[.string a0, .slice A1 a1.length c1]) (t := 62) ?_; intro ga hg w2_ hbox hb; have n1_ := sb hb; have n2_ := Aside0.mk hbox; clear HB ; have HB := n1_; have BKga := n2_; clear n1_ n2_ hb hbox hg; have qga_0 : w2_.cell? ⟨ga, 0, none⟩ = some (.string a0) := (blk_cell BKga.out 0).trans rfl; have qga_1 : w2_.cell? ⟨ga, 1, none⟩ = some (.slice A1 a1.length c1) := (blk_cell BKga.out 1).trans rfl) | ((with_reducible refine gate_dst (N := 3) rfl ?_); refine bx (cs := #[.string b0, .slice B1 b1.length d1]) (t := 62) ?_; intro gb hg w3_ hbox hb; have m0_ := Aside0.mk (blk_below (g := ga) (o := .cells #[.string a0, .slice A1 a1.length c1] 62 (0, 0)) (by (with_reducible repeat (first | refine blk_drewN ?_ _ | refine blk_drew ?_ | refine blk_alloc ?_ _)); exact BKga.out) hb); have n1_ := sb hb; have n2_ := Aside0.mk hbox; clear HB BKga; have HB := n1_; have BKgb := n2_; clear n1_ n2_ hb hbox hg; have BKga := m0_; clear m0_; have qga_0 : w3_.cell? ⟨ga, 0, none⟩ = some (.string a0) := (blk_cell BKga.out 0).trans rfl; have qga_1 : w3_.cell? ⟨ga, 1, none⟩ = some (.slice A1 a1.length c1) := (blk_cell BKga.out 1).trans rfl; have qgb_0 : w3_.cell? ⟨gb, 0, none⟩ = some (.string b0) := (blk_cell BKgb.out 0).trans rfl; have qgb_1 : w3_.cell? ⟨gb, 1, none⟩ = some (.slice B1 b1.length d1) := (blk_cell BKgb.out 1).trans rfl))
  go_ret
  exact ⟨by first | rfl | (simp; done) | (simp [*]; done), ib⟩
def impl_FacesEq.l0 : Nat → List (S62) → List (S62) → Int → Option (Bool)
 | 0, _, _, _ => none
 | k + 1, x0, x1, x17 => if x17 < (x0.length : Int) then (if 0 ≤ x17 then (if x17 < (x1.length : Int) then ((impl_FaceEq.f k ((rd_T62 x0 x17).f0) ((rd_T62 x0 x17).f1) ((rd_T62 x1 x17).f0) ((rd_T62 x1 x17).f1)).bind fun t => (if t = true then (impl_FacesEq.l0 k x0 x1 (wrap64 (x17 + 1))) else (some false))) else (none)) else (none)) else (some true)
def impl_FacesEq.f (k : Nat) (l0 : List (S62)) (l1 : List (S62)) : Option (Bool) := if (l0.length : Int) = (l1.length : Int) then (impl_FacesEq.l0 k l0 l1 0) else (some false)
theorem impl_FacesEq.mono_l : ∀ k, (∀ y0 y1 y2, LeO (impl_FacesEq.l0 k y0 y1 y2) (impl_FacesEq.l0 (k + 1) y0 y1 y2))
 | 0 => fun _ _ _ r h => by simp [impl_FacesEq.l0] at h
 | k + 1 => by
  have ih0 := impl_FacesEq.mono_l k
  ·intro y0 y1 y2
   unfold impl_FacesEq.l0
   repeat' first
   | (with_reducible exact ih0 _ _ _)
   | (with_reducible exact impl_FaceEq.mono _ _ _ _ _)
   | (with_reducible exact LeO.refl _)
   | (with_reducible exact LeO.none _)
   | (with_reducible refine LeO.ite ?_ ?_)
   | (with_reducible refine LeO.bind ?_ (fun _ => ?_))
   | exact ih0 _ _ _
   | exact impl_FaceEq.mono _ _ _ _ _
   | refine LeO.ite ?_ ?_
   | refine LeO.bind ?_ (fun _ => ?_)
theorem impl_FacesEq.mono : ∀ a0 a1 k, LeO (impl_FacesEq.f k a0 a1) (impl_FacesEq.f (k + 1) a0 a1) := by
 intro a0 a1 k
 have ih0 := impl_FacesEq.mono_l k
 unfold impl_FacesEq.f
 repeat' first
   | (with_reducible exact ih0 _ _ _)
   | (with_reducible exact LeO.refl _)
   | (with_reducible refine LeO.ite ?_ ?_)
   | exact ih0 _ _ _
   | refine LeO.ite ?_ ?_
set_option maxHeartbeats 8000000 in
set_option maxRecDepth 100000 in
theorem impl_FacesEq.calls (k : Nat) (A0 : Option Addr) (c0 : Nat) (l0 : List (S62)) (A1 : Option Addr) (c1 : Nat) (l1 : List (S62)) (r : Bool) (w : World) (hr0 : Kd.C k62 w A0 l0.length l0) (hr1 : Kd.C k62 w A1 l1.length l1) (h : impl_FacesEq.f k l0 l1 = some r) :
  Calls Try.prog 37 #[.slice A0 l0.length c0, .slice A1 l1.length c1, .func (.func 38) #[] #[]] w fun e w' => e = .returned (.bool r) ∧ Below w.heap.size w w' := by
 have hu62 := Try.underlying62
 have HR0 := Aside0.mk hr0
 have HR1 := Aside0.mk hr1
 have HB := Aside0.mk (Below.refl w.heap.size w)
 have H : (if (l0.length : Int) = (l1.length : Int) then (impl_FacesEq.l0 k l0 l1 0) else (some false)) = some r := h
 clear hr0 hr1 h
 by_cases c3 : (l0.length : Int) = (l1.length : Int)
 ·rw [if_pos c3] at H
  have c3b0 : ((l0.length : Int) == (l1.length : Int)) = true := beq_iff_eq.mpr c3
  have c3b1 : ((l0.length : Int) != (l1.length : Int)) = false := bne_eq_false_iff_eq.mpr c3
  have c3b2 : (l0.length == l1.length) = true := by first | simpa using c3 | (simp at c3 ⊢; omega)
  clear c3
  have H' := Aside0.mk H
  clear H
  go_enter Try.func37, Try.ntmps37
  go_wp2
  go_loopg [17] k (fun kq v17 w' => ∃ (x17_1 : Int), v17 = .int .i64 x17_1 ∧ Aside0 (impl_FacesEq.l0 kq l0 l1 x17_1 = some r) ∧ Aside0 (kq ≤ k) ∧ Aside0 (Below w.heap.size w w'))
  case atStart => exact ⟨(0), (by first | rfl | (simp; done) | (simp [*]; done)), H', ⟨Nat.le_refl _⟩, ⟨ib⟩⟩
  case round =>
   clear H'
   try clear c3b0
   try clear c3b1
   try clear c3b2
   obtain ⟨x17_1, rfl, HA, HK1, HB⟩ := hrel
   cases gk with
   | zero => exact absurd HA.out (by simp [impl_FacesEq.l0])
   | succ k1 =>
    have H := HA.out
    clear HA
    simp only [impl_FacesEq.l0] at H
    by_cases c4 : x17_1 < (l0.length : Int)
    ·rw [if_pos c4] at H
     have c4b0 : decide (x17_1 < (l0.length : Int)) = true := decide_eq_true c4
     by_cases c5 : 0 ≤ x17_1
     ·rw [if_pos c5] at H
      have c5b0 : decide (0 ≤ x17_1) = true := decide_eq_true c5
      by_cases c7 : x17_1 < (l1.length : Int)
      ·rw [if_pos c7] at H
       have c7b0 : decide (x17_1 < (l1.length : Int)) = true := decide_eq_true c7
       obtain ⟨ad1, B1, d1, e1, hx1_0, hx1_1, hl1, hi1⟩ := at_T62 HR0.out x17_1 c5 c4
       cases e1
       obtain ⟨ad2, B2, d2, e2, hx2_0, hx2_1, hl2, hi2⟩ := at_T62 HR1.out x17_1 c5 c7
       cases e2
       replace hx1_0 := (HB.out.cell (bL w _ hx1_0)).trans hx1_0
       replace hx1_1 := (HB.out.cell (bL w _ hx1_1)).trans hx1_1
       have HX2_0 := Aside0.mk hx2_0
       have HX2_1 := Aside0.mk hx2_1
       have HI1 := Aside0.mk hi1
       have HI2 := Aside0.mk hi2
       clear hi1 hi2 hl1 hl2 hx2_0 hx2_1
       have p1 := eq_true c5
       have p2 := eq_true c4
       have p3 := eq_true c7
       clear c4 c5 c7
       replace H := Option.bind_eq_some_iff.mp H
       obtain ⟨t, A10, H⟩ := H
       have A1_ := Aside0.mk A10
       clear A10
       cases t with
       | true =>
        have H' := Aside0.mk (show impl_FacesEq.l0 k1 l0 l1 (wrap64 (x17_1 + 1)) = some r from by simpa using H)
        clear H
        go_wp2_with (first | ((with_reducible refine gate_dst (N := 8) rfl ?_); refine bx (cs := #[.string ⟨#[]⟩, .slice none 0 0]) (t := 62) ?_; intro ga hg w8_ hbox hb; have GEa := Aside0.mk ((by rw [hg]; exact (below_size ib) : w.heap.size ≤ ga)); have n1_ := sb hb; have n2_ := Aside0.mk hbox; clear HB; have HB := n1_; have BKga := n2_; clear n1_ n2_ hb hbox hg; have qga_0 : w8_.cell? ⟨ga, 0, none⟩ = some (.string ⟨#[]⟩) := (blk_cell BKga.out 0).trans rfl; have qga_1 : w8_.cell? ⟨ga, 1, none⟩ = some (.slice none 0 0) := (blk_cell BKga.out 1).trans rfl; have fza_0 := blk_frozen BKga.out 0; have fza_1 := blk_frozen BKga.out 1; have hx2_0 : w8_.cell? (ad2.add (x17_1.toNat * 2)) = some (.string (rd_T62 l1 x17_1).f0) := (HB.out.cell (bL w _ HX2_0.out)).trans HX2_0.out; have hx2_1 : w8_.cell? ⟨(ad2.add (x17_1.toNat * 2)).block, (ad2.add (x17_1.toNat * 2)).off + 1, none⟩ = some (.slice B2 (rd_T62 l1 x17_1).f1.length d2) := (HB.out.cell (bL w _ HX2_1.out)).trans HX2_1.out; have ne2 : ad2.block ≠ ga := (by have h_ := bL w _ HX2_0.out; rw [add_block] at h_; have g_ := GEa.out; omega); have hfar0 : ∀ (W : World) (j : Nat) (u : Value), (W.setCell ⟨ga, j, none⟩ u).cell? (ad2.add (x17_1.toNat * 2)) = W.cell? (ad2.add (x17_1.toNat * 2)) := fun W j u => cell_far (p := ⟨ga, j, none⟩) (fun e_ => ne2 ((add_block ad2 (x17_1.toNat * 2)).symm.trans e_)) u; have hfar1 : ∀ (W : World) (j : Nat) (u : Value), (W.setCell ⟨ga, j, none⟩ u).cell? ⟨(ad2.add (x17_1.toNat * 2)).block, (ad2.add (x17_1.toNat * 2)).off + 1, none⟩ = W.cell? ⟨(ad2.add (x17_1.toNat * 2)).block, (ad2.add (x17_1.toNat * 2)).off + 1, none⟩ := fun W j u => cell_far (p := ⟨ga, j, none⟩) (a := ⟨(ad2.add (x17_1.toNat * 2)).block, (ad2.add (x17_1.toNat * 2)).off + 1, none⟩) (fun e_ => ne2 ((add_block ad2 (x17_1.toNat * 2)).symm.trans e_)) u) | ((with_reducible refine gate_dst (N := 9) rfl ?_); refine bx (cs := #[.string ⟨#[]⟩, .slice none 0 0]) (t := 62) ?_; intro gb hg w9_ hbox hb; have m0_ := mz9_ hb (g := ga) (o := .cells #[.string (rd_T62 l0 x17_1).f0, .slice B1 (rd_T62 l0 x17_1).f1.length d1] 62 (0, 0)) (by refine blk_put (cs := #[.string (rd_T62 l0 x17_1).f0, .slice none 0 0]) ?_ 1 _ rfl; refine blk_put (cs := #[.string ⟨#[]⟩, .slice none 0 0]) ?_ 0 _ rfl; exact BKga.out); have hne := Aside0.mk ((by rw [hg]; exact Nat.ne_of_lt (blk_lt m0_)) : ga ≠ gb); have GEb := Aside0.mk ((by rw [hg]; exact (below_size (below_set (below_set HB.out GEa.out) GEa.out)) : w.heap.size ≤ gb)); have n0_ := Aside0.mk (blk_below m0_ hb); have n1_ := Aside0.mk (below_step (below_set (below_set HB.out GEa.out) GEa.out) hb); have n2_ := Aside0.mk hbox; clear HB BKga m0_ qga_0 qga_1 fza_0 fza_1 hx2_0 hx2_1 hfar0 hfar1 ne2; have BKga := n0_; have HB := n1_; have BKgb := n2_; clear n0_ n1_ n2_ hb hbox hg; have hne1 := hne.out; have hne2 := hne.out.symm; have qga_0 : w9_.cell? ⟨ga, 0, none⟩ = some (.string (rd_T62 l0 x17_1).f0) := (blk_cell BKga.out 0).trans rfl; have qga_1 : w9_.cell? ⟨ga, 1, none⟩ = some (.slice B1 (rd_T62 l0 x17_1).f1.length d1) := (blk_cell BKga.out 1).trans rfl; have qgb_0 : w9_.cell? ⟨gb, 0, none⟩ = some (.string ⟨#[]⟩) := (blk_cell BKgb.out 0).trans rfl; have qgb_1 : w9_.cell? ⟨gb, 1, none⟩ = some (.slice none 0 0) := (blk_cell BKgb.out 1).trans rfl; have fzb_0 := blk_frozen BKgb.out 0; have fzb_1 := blk_frozen BKgb.out 1) | (go_at_call 38; (with_reducible refine (impl_FaceEq.calls k1 (rd_T62 l0 x17_1).f0 B1 d1 (rd_T62 l0 x17_1).f1 (rd_T62 l1 x17_1).f0 B2 d2 (rd_T62 l1 x17_1).f1 _ _ (Kd.C_below HI1.out (below_set (below_set HB.out GEb.out) GEb.out)) (Kd.C_below HI2.out (below_set (below_set HB.out GEb.out) GEb.out)) A1_.out).mono ?_); rintro e w5 ⟨rfl, hb⟩; have n1_ := Aside0.mk (below_step (below_set (below_set HB.out GEb.out) GEb.out) hb); clear HB hb; have HB := n1_; clear n1_))
        go_roundg k1
        case measure => have := HK1.out; omega
        case rel => exact ⟨(wrap64 (x17_1 + 1)), (by first | rfl | (simp; done) | (simp [*]; done)), H', ⟨by have := HK1.out; omega⟩, ⟨ib⟩⟩
       | false =>
        obtain rfl := Option.some.inj (show some false = some r from by simpa using H)
        clear H
        go_wp2_with (first | ((with_reducible refine gate_dst (N := 8) rfl ?_); refine bx (cs := #[.string ⟨#[]⟩, .slice none 0 0]) (t := 62) ?_; intro ga hg w8_ hbox hb; have GEa := Aside0.mk ((by rw [hg]; exact (below_size ib) : w.heap.size ≤ ga)); have n1_ := sb hb; have n2_ := Aside0.mk hbox; clear HB; have HB := n1_; have BKga := n2_; clear n1_ n2_ hb hbox hg; have qga_0 : w8_.cell? ⟨ga, 0, none⟩ = some (.string ⟨#[]⟩) := (blk_cell BKga.out 0).trans rfl; have qga_1 : w8_.cell? ⟨ga, 1, none⟩ = some (.slice none 0 0) := (blk_cell BKga.out 1).trans rfl; have fza_0 := blk_frozen BKga.out 0; have fza_1 := blk_frozen BKga.out 1; have hx2_0 : w8_.cell? (ad2.add (x17_1.toNat * 2)) = some (.string (rd_T62 l1 x17_1).f0) := (HB.out.cell (bL w _ HX2_0.out)).trans HX2_0.out; have hx2_1 : w8_.cell? ⟨(ad2.add (x17_1.toNat * 2)).block, (ad2.add (x17_1.toNat * 2)).off + 1, none⟩ = some (.slice B2 (rd_T62 l1 x17_1).f1.length d2) := (HB.out.cell (bL w _ HX2_1.out)).trans HX2_1.out; have ne2 : ad2.block ≠ ga := (by have h_ := bL w _ HX2_0.out; rw [add_block] at h_; have g_ := GEa.out; omega); have hfar0 : ∀ (W : World) (j : Nat) (u : Value), (W.setCell ⟨ga, j, none⟩ u).cell? (ad2.add (x17_1.toNat * 2)) = W.cell? (ad2.add (x17_1.toNat * 2)) := fun W j u => cell_far (p := ⟨ga, j, none⟩) (fun e_ => ne2 ((add_block ad2 (x17_1.toNat * 2)).symm.trans e_)) u; have hfar1 : ∀ (W : World) (j : Nat) (u : Value), (W.setCell ⟨ga, j, none⟩ u).cell? ⟨(ad2.add (x17_1.toNat * 2)).block, (ad2.add (x17_1.toNat * 2)).off + 1, none⟩ = W.cell? ⟨(ad2.add (x17_1.toNat * 2)).block, (ad2.add (x17_1.toNat * 2)).off + 1, none⟩ := fun W j u => cell_far (p := ⟨ga, j, none⟩) (a := ⟨(ad2.add (x17_1.toNat * 2)).block, (ad2.add (x17_1.toNat * 2)).off + 1, none⟩) (fun e_ => ne2 ((add_block ad2 (x17_1.toNat * 2)).symm.trans e_)) u) | ((with_reducible refine gate_dst (N := 9) rfl ?_); refine bx (cs := #[.string ⟨#[]⟩, .slice none 0 0]) (t := 62) ?_; intro gb hg w9_ hbox hb; have m0_ := mz9_ hb (g := ga) (o := .cells #[.string (rd_T62 l0 x17_1).f0, .slice B1 (rd_T62 l0 x17_1).f1.length d1] 62 (0, 0)) (by refine blk_put (cs := #[.string (rd_T62 l0 x17_1).f0, .slice none 0 0]) ?_ 1 _ rfl; refine blk_put (cs := #[.string ⟨#[]⟩, .slice none 0 0]) ?_ 0 _ rfl; exact BKga.out); have hne := Aside0.mk ((by rw [hg]; exact Nat.ne_of_lt (blk_lt m0_)) : ga ≠ gb); have GEb := Aside0.mk ((by rw [hg]; exact (below_size (below_set (below_set HB.out GEa.out) GEa.out)) : w.heap.size ≤ gb)); have n0_ := Aside0.mk (blk_below m0_ hb); have n1_ := Aside0.mk (below_step (below_set (below_set HB.out GEa.out) GEa.out) hb); have n2_ := Aside0.mk hbox; clear HB BKga m0_ qga_0 qga_1 fza_0 fza_1 hx2_0 hx2_1 hfar0 hfar1 ne2; have BKga := n0_; have HB := n1_; have BKgb := n2_; clear n0_ n1_ n2_ hb hbox hg; have hne1 := hne.out; have hne2 := hne.out.symm; have qga_0 : w9_.cell? ⟨ga, 0, none⟩ = some (.string (rd_T62 l0 x17_1).f0) := (blk_cell BKga.out 0).trans rfl; have qga_1 : w9_.cell? ⟨ga, 1, none⟩ = some (.slice B1 (rd_T62 l0 x17_1).f1.length d1) := (blk_cell BKga.out 1).trans rfl; have qgb_0 : w9_.cell? ⟨gb, 0, none⟩ = some (.string ⟨#[]⟩) := (blk_cell BKgb.out 0).trans rfl; have qgb_1 : w9_.cell? ⟨gb, 1, none⟩ = some (.slice none 0 0) := (blk_cell BKgb.out 1).trans rfl; have fzb_0 := blk_frozen BKgb.out 0; have fzb_1 := blk_frozen BKgb.out 1) | (go_at_call 38; (with_reducible refine (impl_FaceEq.calls k1 (rd_T62 l0 x17_1).f0 B1 d1 (rd_T62 l0 x17_1).f1 (rd_T62 l1 x17_1).f0 B2 d2 (rd_T62 l1 x17_1).f1 _ _ (Kd.C_below HI1.out (below_set (below_set HB.out GEb.out) GEb.out)) (Kd.C_below HI2.out (below_set (below_set HB.out GEb.out) GEb.out)) A1_.out).mono ?_); rintro e w5 ⟨rfl, hb⟩; have n1_ := Aside0.mk (below_step (below_set (below_set HB.out GEb.out) GEb.out) hb); clear HB hb; have HB := n1_; clear n1_))
        go_ret
        exact ⟨by first | rfl | (simp; done) | (simp [*]; done), ib⟩
      ·rw [if_neg c7] at H
       exact absurd H (by simp)
     ·rw [if_neg c5] at H
      exact absurd H (by simp)
    ·rw [if_neg c4] at H
     have c4b0 : decide (x17_1 < (l0.length : Int)) = false := decide_eq_false c4
     clear c4
     obtain rfl := Option.some.inj H
     go_wp2
     go_ret
     exact ⟨by first | rfl | (simp; done) | (simp [*]; done), ib⟩
 ·rw [if_neg c3] at H
  have c3b0 : ((l0.length : Int) == (l1.length : Int)) = false := beq_eq_false_iff_ne.mpr c3
  have c3b1 : ((l0.length : Int) != (l1.length : Int)) = true := bne_iff_ne.mpr c3
  have c3b2 : (l0.length == l1.length) = false := by first | simpa using c3 | (simp at c3 ⊢; omega)
  obtain rfl := Option.some.inj H
  go_enter Try.func37, Try.ntmps37
  go_wp2
  go_ret
  exact ⟨by first | rfl | (simp; done) | (simp [*]; done), ib⟩
def impl_SameDrawing.f (k : Nat) (a0_0 : Int) (a0_1 : Int) (l0_2 : List (S51)) (l0_3 : List (S62)) (a1_0 : Int) (a1_1 : Int) (l1_2 : List (S51)) (l1_3 : List (S62)) : Option (Bool) := if a0_0 = a1_0 then (if a0_1 = a1_1 then ((impl_Point.f k l0_2 l1_2).bind fun t => (if t = true then (impl_FacesEq.f k l0_3 l1_3) else (some false))) else (some false)) else (some false)
theorem impl_SameDrawing.mono : ∀ a0 a1 a2 a3 a4 a5 a6 a7 k, LeO (impl_SameDrawing.f k a0 a1 a2 a3 a4 a5 a6 a7) (impl_SameDrawing.f (k + 1) a0 a1 a2 a3 a4 a5 a6 a7) := by
 intro a0 a1 a2 a3 a4 a5 a6 a7 k
 unfold impl_SameDrawing.f
 exact LeO.ite (LeO.ite (LeO.bind (impl_Point.mono _ _ _) (fun _ => LeO.ite (impl_FacesEq.mono _ _ _) (LeO.refl _))) (LeO.refl _)) (LeO.refl _)
set_option maxHeartbeats 8000000 in
set_option maxRecDepth 100000 in
theorem impl_SameDrawing.calls (k : Nat) (a0_0 : Int) (a0_1 : Int) (A0_2 : Option Addr) (c0_2 : Nat) (l0_2 : List (S51)) (A0_3 : Option Addr) (c0_3 : Nat) (l0_3 : List (S62)) (a1_0 : Int) (a1_1 : Int) (A1_2 : Option Addr) (c1_2 : Nat) (l1_2 : List (S51)) (A1_3 : Option Addr) (c1_3 : Nat) (l1_3 : List (S62)) (r : Bool) (w : World) (hr0_2 : Kd.C k51 w A0_2 l0_2.length l0_2) (hc0_2 : l0_2.length ≤ c0_2) (hr0_3 : Kd.C k62 w A0_3 l0_3.length l0_3) (hc0_3 : l0_3.length ≤ c0_3) (hr1_2 : Kd.C k51 w A1_2 l1_2.length l1_2) (hc1_2 : l1_2.length ≤ c1_2) (hr1_3 : Kd.C k62 w A1_3 l1_3.length l1_3) (hc1_3 : l1_3.length ≤ c1_3) (h : impl_SameDrawing.f k a0_0 a0_1 l0_2 l0_3 a1_0 a1_1 l1_2 l1_3 = some r) :
  Calls Try.prog 21 #[.agg #[.int .i64 a0_0, .int .i64 a0_1, .slice A0_2 l0_2.length c0_2, .slice A0_3 l0_3.length c0_3], .agg #[.int .i64 a1_0, .int .i64 a1_1, .slice A1_2 l1_2.length c1_2, .slice A1_3 l1_3.length c1_3]] w fun e w' => e = .returned (.bool r) ∧ Below w.heap.size w w' := by
 have hu44 := Try.underlying44
 have HR0_2 := Aside0.mk hr0_2
 have HC0_2 := Aside0.mk hc0_2
 have HR0_3 := Aside0.mk hr0_3
 have HR1_2 := Aside0.mk hr1_2
 have HC1_2 := Aside0.mk hc1_2
 have HR1_3 := Aside0.mk hr1_3
 have HB := Aside0.mk (Below.refl w.heap.size w)
 have H : (if a0_0 = a1_0 then (if a0_1 = a1_1 then ((impl_Point.f k l0_2 l1_2).bind fun t => (if t = true then (impl_FacesEq.f k l0_3 l1_3) else (some false))) else (some false)) else (some false)) = some r := h
 clear hr0_2 hc0_2 hr0_3 hc0_3 hr1_2 hc1_2 hr1_3 hc1_3 h
 by_cases c1 : a0_0 = a1_0
 ·rw [if_pos c1] at H
  have c1b0 : (a0_0 == a1_0) = true := beq_iff_eq.mpr c1
  have c1b1 : (a0_0 != a1_0) = false := bne_eq_false_iff_eq.mpr c1
  clear c1
  by_cases c2 : a0_1 = a1_1
  ·rw [if_pos c2] at H
   have c2b0 : (a0_1 == a1_1) = true := beq_iff_eq.mpr c2
   have c2b1 : (a0_1 != a1_1) = false := bne_eq_false_iff_eq.mpr c2
   clear c2
   replace H := Option.bind_eq_some_iff.mp H
   obtain ⟨t, A10, H⟩ := H
   have A1_ := Aside0.mk A10
   clear A10
   cases t with
   | true =>
    have A2_ := Aside0.mk (show impl_FacesEq.f k l0_3 l1_3 = some r from by simpa using H)
    clear H
    go_enter Try.func21, Try.ntmps21
    go_wp2_with (first | ((with_reducible refine gate_dst (N := 2) rfl ?_); refine bx (cs := #[.int .i64 a0_0, .int .i64 a0_1, .slice A0_2 l0_2.length c0_2, .slice A0_3 l0_3.length c0_3]) (t := 44) ?_; intro ga hg w2_ hbox hb; have n1_ := sb hb; have n2_ := Aside0.mk hbox; clear HB ; have HB := n1_; have BKga := n2_; clear n1_ n2_ hb hbox hg; have qga_0 : w2_.cell? ⟨ga, 0, none⟩ = some (.int .i64 a0_0) := (blk_cell BKga.out 0).trans rfl; have qga_1 : w2_.cell? ⟨ga, 1, none⟩ = some (.int .i64 a0_1) := (blk_cell BKga.out 1).trans rfl; have qga_2 : w2_.cell? ⟨ga, 2, none⟩ = some (.slice A0_2 l0_2.length c0_2) := (blk_cell BKga.out 2).trans rfl; have qga_3 : w2_.cell? ⟨ga, 3, none⟩ = some (.slice A0_3 l0_3.length c0_3) := (blk_cell BKga.out 3).trans rfl) | ((with_reducible refine gate_dst (N := 3) rfl ?_); refine bx (cs := #[.int .i64 a1_0, .int .i64 a1_1, .slice A1_2 l1_2.length c1_2, .slice A1_3 l1_3.length c1_3]) (t := 44) ?_; intro gb hg w3_ hbox hb; have m0_ := Aside0.mk (blk_below (g := ga) (o := .cells #[.int .i64 a0_0, .int .i64 a0_1, .slice A0_2 l0_2.length c0_2, .slice A0_3 l0_3.length c0_3] 44 (0, 0)) (by (with_reducible repeat (first | refine blk_drewN ?_ _ | refine blk_drew ?_ | refine blk_alloc ?_ _)); exact BKga.out) hb); have n1_ := sb hb; have n2_ := Aside0.mk hbox; clear HB BKga; have HB := n1_; have BKgb := n2_; clear n1_ n2_ hb hbox hg; have BKga := m0_; clear m0_; have qga_0 : w3_.cell? ⟨ga, 0, none⟩ = some (.int .i64 a0_0) := (blk_cell BKga.out 0).trans rfl; have qga_1 : w3_.cell? ⟨ga, 1, none⟩ = some (.int .i64 a0_1) := (blk_cell BKga.out 1).trans rfl; have qga_2 : w3_.cell? ⟨ga, 2, none⟩ = some (.slice A0_2 l0_2.length c0_2) := (blk_cell BKga.out 2).trans rfl; have qga_3 : w3_.cell? ⟨ga, 3, none⟩ = some (.slice A0_3 l0_3.length c0_3) := (blk_cell BKga.out 3).trans rfl; have qgb_0 : w3_.cell? ⟨gb, 0, none⟩ = some (.int .i64 a1_0) := (blk_cell BKgb.out 0).trans rfl; have qgb_1 : w3_.cell? ⟨gb, 1, none⟩ = some (.int .i64 a1_1) := (blk_cell BKgb.out 1).trans rfl; have qgb_2 : w3_.cell? ⟨gb, 2, none⟩ = some (.slice A1_2 l1_2.length c1_2) := (blk_cell BKgb.out 2).trans rfl; have qgb_3 : w3_.cell? ⟨gb, 3, none⟩ = some (.slice A1_3 l1_3.length c1_3) := (blk_cell BKgb.out 3).trans rfl) | ((with_reducible refine gate_callee (f := 36) rfl ?_); refine goesL_ _ rfl rfl Try.func36 (by kernel_rfl) rfl #[.slice A0_2 l0_2.length c0_2, .slice A1_2 l1_2.length c1_2] rfl (by (try simp only [List.map_toArray, List.map_cons, List.map_nil]); first | done | rfl) ?_; (with_reducible refine (impl_Point.calls k A0_2 c0_2 l0_2 A1_2 c1_2 l1_2 _ _ (Kd.C_below HR0_2.out ib) HC0_2.out (Kd.C_below HR1_2.out ib) HC1_2.out A1_.out).mono ?_); rintro e w5 ⟨rfl, ⟨nd, hnd⟩⟩; refine ⟨_, rfl, ?_⟩; have n1_ : Aside0 (Below w.heap.size w w5) := ⟨by rw [hnd]; exact pw_below_drewN HB.out nd⟩; have n2_ : Aside0 (w5.heap[ga]? = some (.cells #[.int .i64 a0_0, .int .i64 a0_1, .slice A0_2 l0_2.length c0_2, .slice A0_3 l0_3.length c0_3] 44 (0, 0))) := ⟨by rw [hnd]; exact blk_drewN BKga.out nd⟩; have n3_ : Aside0 (w5.heap[gb]? = some (.cells #[.int .i64 a1_0, .int .i64 a1_1, .slice A1_2 l1_2.length c1_2, .slice A1_3 l1_3.length c1_3] 44 (0, 0))) := ⟨by rw [hnd]; exact blk_drewN BKgb.out nd⟩; clear HB BKga BKgb hnd; have HB := n1_; have BKga := n2_; have BKgb := n3_; clear n1_ n2_ n3_; have qga_0 : w5.cell? ⟨ga, 0, none⟩ = some (.int .i64 a0_0) := (blk_cell BKga.out 0).trans rfl; have qga_1 : w5.cell? ⟨ga, 1, none⟩ = some (.int .i64 a0_1) := (blk_cell BKga.out 1).trans rfl; have qga_2 : w5.cell? ⟨ga, 2, none⟩ = some (.slice A0_2 l0_2.length c0_2) := (blk_cell BKga.out 2).trans rfl; have qga_3 : w5.cell? ⟨ga, 3, none⟩ = some (.slice A0_3 l0_3.length c0_3) := (blk_cell BKga.out 3).trans rfl; have qgb_0 : w5.cell? ⟨gb, 0, none⟩ = some (.int .i64 a1_0) := (blk_cell BKgb.out 0).trans rfl; have qgb_1 : w5.cell? ⟨gb, 1, none⟩ = some (.int .i64 a1_1) := (blk_cell BKgb.out 1).trans rfl; have qgb_2 : w5.cell? ⟨gb, 2, none⟩ = some (.slice A1_2 l1_2.length c1_2) := (blk_cell BKgb.out 2).trans rfl; have qgb_3 : w5.cell? ⟨gb, 3, none⟩ = some (.slice A1_3 l1_3.length c1_3) := (blk_cell BKgb.out 3).trans rfl) | (go_at_call 36; (with_reducible refine (impl_Point.calls k A0_2 c0_2 l0_2 A1_2 c1_2 l1_2 _ _ (Kd.C_below HR0_2.out ib) HC0_2.out (Kd.C_below HR1_2.out ib) HC1_2.out A1_.out).mono ?_); rintro e w5 ⟨rfl, ⟨nd, hnd⟩⟩; have n1_ : Aside0 (Below w.heap.size w w5) := ⟨by rw [hnd]; exact pw_below_drewN HB.out nd⟩; have n2_ : Aside0 (w5.heap[ga]? = some (.cells #[.int .i64 a0_0, .int .i64 a0_1, .slice A0_2 l0_2.length c0_2, .slice A0_3 l0_3.length c0_3] 44 (0, 0))) := ⟨by rw [hnd]; exact blk_drewN BKga.out nd⟩; have n3_ : Aside0 (w5.heap[gb]? = some (.cells #[.int .i64 a1_0, .int .i64 a1_1, .slice A1_2 l1_2.length c1_2, .slice A1_3 l1_3.length c1_3] 44 (0, 0))) := ⟨by rw [hnd]; exact blk_drewN BKgb.out nd⟩; clear HB BKga BKgb hnd; have HB := n1_; have BKga := n2_; have BKgb := n3_; clear n1_ n2_ n3_; have qga_0 : w5.cell? ⟨ga, 0, none⟩ = some (.int .i64 a0_0) := (blk_cell BKga.out 0).trans rfl; have qga_1 : w5.cell? ⟨ga, 1, none⟩ = some (.int .i64 a0_1) := (blk_cell BKga.out 1).trans rfl; have qga_2 : w5.cell? ⟨ga, 2, none⟩ = some (.slice A0_2 l0_2.length c0_2) := (blk_cell BKga.out 2).trans rfl; have qga_3 : w5.cell? ⟨ga, 3, none⟩ = some (.slice A0_3 l0_3.length c0_3) := (blk_cell BKga.out 3).trans rfl; have qgb_0 : w5.cell? ⟨gb, 0, none⟩ = some (.int .i64 a1_0) := (blk_cell BKgb.out 0).trans rfl; have qgb_1 : w5.cell? ⟨gb, 1, none⟩ = some (.int .i64 a1_1) := (blk_cell BKgb.out 1).trans rfl; have qgb_2 : w5.cell? ⟨gb, 2, none⟩ = some (.slice A1_2 l1_2.length c1_2) := (blk_cell BKgb.out 2).trans rfl; have qgb_3 : w5.cell? ⟨gb, 3, none⟩ = some (.slice A1_3 l1_3.length c1_3) := (blk_cell BKgb.out 3).trans rfl) | ((with_reducible refine gate_callee (f := 37) rfl ?_); refine goesL_ _ rfl rfl Try.func37 (by kernel_rfl) rfl #[.slice A0_3 l0_3.length c0_3, .slice A1_3 l1_3.length c1_3, .func (.func 38) #[] #[]] rfl (by (try simp only [List.map_toArray, List.map_cons, List.map_nil]); first | done | rfl) ?_; (with_reducible refine (impl_FacesEq.calls k A0_3 c0_3 l0_3 A1_3 c1_3 l1_3 _ _ (Kd.C_below HR0_3.out ib) (Kd.C_below HR1_3.out ib) A2_.out).mono ?_); rintro e w5 ⟨rfl, hb⟩; refine ⟨_, rfl, ?_⟩; have n1_ := sb hb; clear HB hb; have HB := n1_; clear n1_) | (go_at_call 37; (with_reducible refine (impl_FacesEq.calls k A0_3 c0_3 l0_3 A1_3 c1_3 l1_3 _ _ (Kd.C_below HR0_3.out ib) (Kd.C_below HR1_3.out ib) A2_.out).mono ?_); rintro e w5 ⟨rfl, hb⟩; have n1_ := sb hb; clear HB hb; have HB := n1_; clear n1_))
    go_ret
    exact ⟨by first | rfl | (simp; done) | (simp [*]; done), ib⟩
   | false =>
    obtain rfl := Option.some.inj (show some false = some r from by simpa using H)
    clear H
    go_enter Try.func21, Try.ntmps21
    go_wp2_with (first | ((with_reducible refine gate_dst (N := 2) rfl ?_); refine bx (cs := #[.int .i64 a0_0, .int .i64 a0_1, .slice A0_2 l0_2.length c0_2, .slice A0_3 l0_3.length c0_3]) (t := 44) ?_; intro ga hg w2_ hbox hb; have n1_ := sb hb; have n2_ := Aside0.mk hbox; clear HB ; have HB := n1_; have BKga := n2_; clear n1_ n2_ hb hbox hg; have qga_0 : w2_.cell? ⟨ga, 0, none⟩ = some (.int .i64 a0_0) := (blk_cell BKga.out 0).trans rfl; have qga_1 : w2_.cell? ⟨ga, 1, none⟩ = some (.int .i64 a0_1) := (blk_cell BKga.out 1).trans rfl; have qga_2 : w2_.cell? ⟨ga, 2, none⟩ = some (.slice A0_2 l0_2.length c0_2) := (blk_cell BKga.out 2).trans rfl; have qga_3 : w2_.cell? ⟨ga, 3, none⟩ = some (.slice A0_3 l0_3.length c0_3) := (blk_cell BKga.out 3).trans rfl) | ((with_reducible refine gate_dst (N := 3) rfl ?_); refine bx (cs := #[.int .i64 a1_0, .int .i64 a1_1, .slice A1_2 l1_2.length c1_2, .slice A1_3 l1_3.length c1_3]) (t := 44) ?_; intro gb hg w3_ hbox hb; have m0_ := Aside0.mk (blk_below (g := ga) (o := .cells #[.int .i64 a0_0, .int .i64 a0_1, .slice A0_2 l0_2.length c0_2, .slice A0_3 l0_3.length c0_3] 44 (0, 0)) (by (with_reducible repeat (first | refine blk_drewN ?_ _ | refine blk_drew ?_ | refine blk_alloc ?_ _)); exact BKga.out) hb); have n1_ := sb hb; have n2_ := Aside0.mk hbox; clear HB BKga; have HB := n1_; have BKgb := n2_; clear n1_ n2_ hb hbox hg; have BKga := m0_; clear m0_; have qga_0 : w3_.cell? ⟨ga, 0, none⟩ = some (.int .i64 a0_0) := (blk_cell BKga.out 0).trans rfl; have qga_1 : w3_.cell? ⟨ga, 1, none⟩ = some (.int .i64 a0_1) := (blk_cell BKga.out 1).trans rfl; have qga_2 : w3_.cell? ⟨ga, 2, none⟩ = some (.slice A0_2 l0_2.length c0_2) := (blk_cell BKga.out 2).trans rfl; have qga_3 : w3_.cell? ⟨ga, 3, none⟩ = some (.slice A0_3 l0_3.length c0_3) := (blk_cell BKga.out 3).trans rfl; have qgb_0 : w3_.cell? ⟨gb, 0, none⟩ = some (.int .i64 a1_0) := (blk_cell BKgb.out 0).trans rfl; have qgb_1 : w3_.cell? ⟨gb, 1, none⟩ = some (.int .i64 a1_1) := (blk_cell BKgb.out 1).trans rfl; have qgb_2 : w3_.cell? ⟨gb, 2, none⟩ = some (.slice A1_2 l1_2.length c1_2) := (blk_cell BKgb.out 2).trans rfl; have qgb_3 : w3_.cell? ⟨gb, 3, none⟩ = some (.slice A1_3 l1_3.length c1_3) := (blk_cell BKgb.out 3).trans rfl) | ((with_reducible refine gate_callee (f := 36) rfl ?_); refine goesL_ _ rfl rfl Try.func36 (by kernel_rfl) rfl #[.slice A0_2 l0_2.length c0_2, .slice A1_2 l1_2.length c1_2] rfl (by (try simp only [List.map_toArray, List.map_cons, List.map_nil]); first | done | rfl) ?_; (with_reducible refine (impl_Point.calls k A0_2 c0_2 l0_2 A1_2 c1_2 l1_2 _ _ (Kd.C_below HR0_2.out ib) HC0_2.out (Kd.C_below HR1_2.out ib) HC1_2.out A1_.out).mono ?_); rintro e w5 ⟨rfl, ⟨nd, hnd⟩⟩; refine ⟨_, rfl, ?_⟩; have n1_ : Aside0 (Below w.heap.size w w5) := ⟨by rw [hnd]; exact pw_below_drewN HB.out nd⟩; have n2_ : Aside0 (w5.heap[ga]? = some (.cells #[.int .i64 a0_0, .int .i64 a0_1, .slice A0_2 l0_2.length c0_2, .slice A0_3 l0_3.length c0_3] 44 (0, 0))) := ⟨by rw [hnd]; exact blk_drewN BKga.out nd⟩; have n3_ : Aside0 (w5.heap[gb]? = some (.cells #[.int .i64 a1_0, .int .i64 a1_1, .slice A1_2 l1_2.length c1_2, .slice A1_3 l1_3.length c1_3] 44 (0, 0))) := ⟨by rw [hnd]; exact blk_drewN BKgb.out nd⟩; clear HB BKga BKgb hnd; have HB := n1_; have BKga := n2_; have BKgb := n3_; clear n1_ n2_ n3_; have qga_0 : w5.cell? ⟨ga, 0, none⟩ = some (.int .i64 a0_0) := (blk_cell BKga.out 0).trans rfl; have qga_1 : w5.cell? ⟨ga, 1, none⟩ = some (.int .i64 a0_1) := (blk_cell BKga.out 1).trans rfl; have qga_2 : w5.cell? ⟨ga, 2, none⟩ = some (.slice A0_2 l0_2.length c0_2) := (blk_cell BKga.out 2).trans rfl; have qga_3 : w5.cell? ⟨ga, 3, none⟩ = some (.slice A0_3 l0_3.length c0_3) := (blk_cell BKga.out 3).trans rfl; have qgb_0 : w5.cell? ⟨gb, 0, none⟩ = some (.int .i64 a1_0) := (blk_cell BKgb.out 0).trans rfl; have qgb_1 : w5.cell? ⟨gb, 1, none⟩ = some (.int .i64 a1_1) := (blk_cell BKgb.out 1).trans rfl; have qgb_2 : w5.cell? ⟨gb, 2, none⟩ = some (.slice A1_2 l1_2.length c1_2) := (blk_cell BKgb.out 2).trans rfl; have qgb_3 : w5.cell? ⟨gb, 3, none⟩ = some (.slice A1_3 l1_3.length c1_3) := (blk_cell BKgb.out 3).trans rfl) | (go_at_call 36; (with_reducible refine (impl_Point.calls k A0_2 c0_2 l0_2 A1_2 c1_2 l1_2 _ _ (Kd.C_below HR0_2.out ib) HC0_2.out (Kd.C_below HR1_2.out ib) HC1_2.out A1_.out).mono ?_); rintro e w5 ⟨rfl, ⟨nd, hnd⟩⟩; have n1_ : Aside0 (Below w.heap.size w w5) := ⟨by rw [hnd]; exact pw_below_drewN HB.out nd⟩; have n2_ : Aside0 (w5.heap[ga]? = some (.cells #[.int .i64 a0_0, .int .i64 a0_1, .slice A0_2 l0_2.length c0_2, .slice A0_3 l0_3.length c0_3] 44 (0, 0))) := ⟨by rw [hnd]; exact blk_drewN BKga.out nd⟩; have n3_ : Aside0 (w5.heap[gb]? = some (.cells #[.int .i64 a1_0, .int .i64 a1_1, .slice A1_2 l1_2.length c1_2, .slice A1_3 l1_3.length c1_3] 44 (0, 0))) := ⟨by rw [hnd]; exact blk_drewN BKgb.out nd⟩; clear HB BKga BKgb hnd; have HB := n1_; have BKga := n2_; have BKgb := n3_; clear n1_ n2_ n3_; have qga_0 : w5.cell? ⟨ga, 0, none⟩ = some (.int .i64 a0_0) := (blk_cell BKga.out 0).trans rfl; have qga_1 : w5.cell? ⟨ga, 1, none⟩ = some (.int .i64 a0_1) := (blk_cell BKga.out 1).trans rfl; have qga_2 : w5.cell? ⟨ga, 2, none⟩ = some (.slice A0_2 l0_2.length c0_2) := (blk_cell BKga.out 2).trans rfl; have qga_3 : w5.cell? ⟨ga, 3, none⟩ = some (.slice A0_3 l0_3.length c0_3) := (blk_cell BKga.out 3).trans rfl; have qgb_0 : w5.cell? ⟨gb, 0, none⟩ = some (.int .i64 a1_0) := (blk_cell BKgb.out 0).trans rfl; have qgb_1 : w5.cell? ⟨gb, 1, none⟩ = some (.int .i64 a1_1) := (blk_cell BKgb.out 1).trans rfl; have qgb_2 : w5.cell? ⟨gb, 2, none⟩ = some (.slice A1_2 l1_2.length c1_2) := (blk_cell BKgb.out 2).trans rfl; have qgb_3 : w5.cell? ⟨gb, 3, none⟩ = some (.slice A1_3 l1_3.length c1_3) := (blk_cell BKgb.out 3).trans rfl))
    go_ret
    exact ⟨by first | rfl | (simp; done) | (simp [*]; done), ib⟩
  ·rw [if_neg c2] at H
   have c2b0 : (a0_1 == a1_1) = false := beq_eq_false_iff_ne.mpr c2
   have c2b1 : (a0_1 != a1_1) = true := bne_iff_ne.mpr c2
   clear c2
   obtain rfl := Option.some.inj H
   go_enter Try.func21, Try.ntmps21
   go_wp2_with (first | ((with_reducible refine gate_dst (N := 2) rfl ?_); refine bx (cs := #[.int .i64 a0_0, .int .i64 a0_1, .slice A0_2 l0_2.length c0_2, .slice A0_3 l0_3.length c0_3]) (t := 44) ?_; intro ga hg w2_ hbox hb; have n1_ := sb hb; have n2_ := Aside0.mk hbox; clear HB ; have HB := n1_; have BKga := n2_; clear n1_ n2_ hb hbox hg; have qga_0 : w2_.cell? ⟨ga, 0, none⟩ = some (.int .i64 a0_0) := (blk_cell BKga.out 0).trans rfl; have qga_1 : w2_.cell? ⟨ga, 1, none⟩ = some (.int .i64 a0_1) := (blk_cell BKga.out 1).trans rfl; have qga_2 : w2_.cell? ⟨ga, 2, none⟩ = some (.slice A0_2 l0_2.length c0_2) := (blk_cell BKga.out 2).trans rfl; have qga_3 : w2_.cell? ⟨ga, 3, none⟩ = some (.slice A0_3 l0_3.length c0_3) := (blk_cell BKga.out 3).trans rfl) | ((with_reducible refine gate_dst (N := 3) rfl ?_); refine bx (cs := #[.int .i64 a1_0, .int .i64 a1_1, .slice A1_2 l1_2.length c1_2, .slice A1_3 l1_3.length c1_3]) (t := 44) ?_; intro gb hg w3_ hbox hb; have m0_ := Aside0.mk (blk_below (g := ga) (o := .cells #[.int .i64 a0_0, .int .i64 a0_1, .slice A0_2 l0_2.length c0_2, .slice A0_3 l0_3.length c0_3] 44 (0, 0)) (by (with_reducible repeat (first | refine blk_drewN ?_ _ | refine blk_drew ?_ | refine blk_alloc ?_ _)); exact BKga.out) hb); have n1_ := sb hb; have n2_ := Aside0.mk hbox; clear HB BKga; have HB := n1_; have BKgb := n2_; clear n1_ n2_ hb hbox hg; have BKga := m0_; clear m0_; have qga_0 : w3_.cell? ⟨ga, 0, none⟩ = some (.int .i64 a0_0) := (blk_cell BKga.out 0).trans rfl; have qga_1 : w3_.cell? ⟨ga, 1, none⟩ = some (.int .i64 a0_1) := (blk_cell BKga.out 1).trans rfl; have qga_2 : w3_.cell? ⟨ga, 2, none⟩ = some (.slice A0_2 l0_2.length c0_2) := (blk_cell BKga.out 2).trans rfl; have qga_3 : w3_.cell? ⟨ga, 3, none⟩ = some (.slice A0_3 l0_3.length c0_3) := (blk_cell BKga.out 3).trans rfl; have qgb_0 : w3_.cell? ⟨gb, 0, none⟩ = some (.int .i64 a1_0) := (blk_cell BKgb.out 0).trans rfl; have qgb_1 : w3_.cell? ⟨gb, 1, none⟩ = some (.int .i64 a1_1) := (blk_cell BKgb.out 1).trans rfl; have qgb_2 : w3_.cell? ⟨gb, 2, none⟩ = some (.slice A1_2 l1_2.length c1_2) := (blk_cell BKgb.out 2).trans rfl; have qgb_3 : w3_.cell? ⟨gb, 3, none⟩ = some (.slice A1_3 l1_3.length c1_3) := (blk_cell BKgb.out 3).trans rfl))
   go_ret
   exact ⟨by first | rfl | (simp; done) | (simp [*]; done), ib⟩
 ·rw [if_neg c1] at H
  have c1b0 : (a0_0 == a1_0) = false := beq_eq_false_iff_ne.mpr c1
  have c1b1 : (a0_0 != a1_0) = true := bne_iff_ne.mpr c1
  clear c1
  obtain rfl := Option.some.inj H
  go_enter Try.func21, Try.ntmps21
  go_wp2_with (first | ((with_reducible refine gate_dst (N := 2) rfl ?_); refine bx (cs := #[.int .i64 a0_0, .int .i64 a0_1, .slice A0_2 l0_2.length c0_2, .slice A0_3 l0_3.length c0_3]) (t := 44) ?_; intro ga hg w2_ hbox hb; have n1_ := sb hb; have n2_ := Aside0.mk hbox; clear HB ; have HB := n1_; have BKga := n2_; clear n1_ n2_ hb hbox hg; have qga_0 : w2_.cell? ⟨ga, 0, none⟩ = some (.int .i64 a0_0) := (blk_cell BKga.out 0).trans rfl; have qga_1 : w2_.cell? ⟨ga, 1, none⟩ = some (.int .i64 a0_1) := (blk_cell BKga.out 1).trans rfl; have qga_2 : w2_.cell? ⟨ga, 2, none⟩ = some (.slice A0_2 l0_2.length c0_2) := (blk_cell BKga.out 2).trans rfl; have qga_3 : w2_.cell? ⟨ga, 3, none⟩ = some (.slice A0_3 l0_3.length c0_3) := (blk_cell BKga.out 3).trans rfl) | ((with_reducible refine gate_dst (N := 3) rfl ?_); refine bx (cs := #[.int .i64 a1_0, .int .i64 a1_1, .slice A1_2 l1_2.length c1_2, .slice A1_3 l1_3.length c1_3]) (t := 44) ?_; intro gb hg w3_ hbox hb; have m0_ := Aside0.mk (blk_below (g := ga) (o := .cells #[.int .i64 a0_0, .int .i64 a0_1, .slice A0_2 l0_2.length c0_2, .slice A0_3 l0_3.length c0_3] 44 (0, 0)) (by (with_reducible repeat (first | refine blk_drewN ?_ _ | refine blk_drew ?_ | refine blk_alloc ?_ _)); exact BKga.out) hb); have n1_ := sb hb; have n2_ := Aside0.mk hbox; clear HB BKga; have HB := n1_; have BKgb := n2_; clear n1_ n2_ hb hbox hg; have BKga := m0_; clear m0_; have qga_0 : w3_.cell? ⟨ga, 0, none⟩ = some (.int .i64 a0_0) := (blk_cell BKga.out 0).trans rfl; have qga_1 : w3_.cell? ⟨ga, 1, none⟩ = some (.int .i64 a0_1) := (blk_cell BKga.out 1).trans rfl; have qga_2 : w3_.cell? ⟨ga, 2, none⟩ = some (.slice A0_2 l0_2.length c0_2) := (blk_cell BKga.out 2).trans rfl; have qga_3 : w3_.cell? ⟨ga, 3, none⟩ = some (.slice A0_3 l0_3.length c0_3) := (blk_cell BKga.out 3).trans rfl; have qgb_0 : w3_.cell? ⟨gb, 0, none⟩ = some (.int .i64 a1_0) := (blk_cell BKgb.out 0).trans rfl; have qgb_1 : w3_.cell? ⟨gb, 1, none⟩ = some (.int .i64 a1_1) := (blk_cell BKgb.out 1).trans rfl; have qgb_2 : w3_.cell? ⟨gb, 2, none⟩ = some (.slice A1_2 l1_2.length c1_2) := (blk_cell BKgb.out 2).trans rfl; have qgb_3 : w3_.cell? ⟨gb, 3, none⟩ = some (.slice A1_3 l1_3.length c1_3) := (blk_cell BKgb.out 3).trans rfl))
  go_ret
  exact ⟨by first | rfl | (simp; done) | (simp [*]; done), ib⟩
def laws_eqPoint.f (a0_0 : Int) (a0_1 : Int) (a1_0 : Int) (a1_1 : Int) : Option (Bool) := if a0_0 = a1_0 then (if a0_1 = a1_1 then (some true) else (some false)) else (some false)
set_option maxHeartbeats 8000000 in
set_option maxRecDepth 100000 in
theorem laws_eqPoint.calls (a0_0 : Int) (a0_1 : Int) (a1_0 : Int) (a1_1 : Int) (r : Bool) (w : World) (h : laws_eqPoint.f a0_0 a0_1 a1_0 a1_1 = some r) :
  Calls Try.prog 30 #[.agg #[.int .i64 a0_0, .int .i64 a0_1], .agg #[.int .i64 a1_0, .int .i64 a1_1]] w fun e w' => e = .returned (.bool r) ∧ Below w.heap.size w w' := by
 have hu51 := Try.underlying51
 have HB := Aside0.mk (Below.refl w.heap.size w)
 have H : (if a0_0 = a1_0 then (if a0_1 = a1_1 then (some true) else (some false)) else (some false)) = some r := h
 clear h
 by_cases c3 : a0_0 = a1_0
 ·rw [if_pos c3] at H
  have c3b0 : (a0_0 == a1_0) = true := beq_iff_eq.mpr c3
  have c3b1 : (a0_0 != a1_0) = false := bne_eq_false_iff_eq.mpr c3
  clear c3
  by_cases c4 : a0_1 = a1_1
  ·rw [if_pos c4] at H
   have c4b0 : (a0_1 == a1_1) = true := beq_iff_eq.mpr c4
   have c4b1 : (a0_1 != a1_1) = false := bne_eq_false_iff_eq.mpr c4
   clear c4
   obtain rfl := Option.some.inj H
   go_enter Try.func30, Try.ntmps30
   go_wp2_with (first | ((with_reducible refine gate_dst (N := 2) rfl ?_); refine bx (cs := #[.int .i64 a0_0, .int .i64 a0_1]) (t := 51) ?_; intro gb153 hg w5 hbox hb; have n0_ := sb hb; have n1_ := Aside0.mk (hbox); have n2_ := zb hg; have n3_ := zb hg; clear HB; have HB := n0_; have BK153 := n1_; have GW153 := n2_; have GE153 := n3_; clear n0_ n1_ n2_ n3_; clear hb hbox hg) | ((with_reducible refine gate_dst (N := 3) rfl ?_); refine bx (cs := #[.int .i64 a1_0, .int .i64 a1_1]) (t := 51) ?_; intro gb154 hg w6 hbox hb; have n0_ := kb BK153 hb; have n1_ := sb hb; have n2_ := Aside0.mk (hbox); have n3_ := zb hg; have n4_ := zb hg; have n5_ := nl BK153 hg; have n6_ := ng BK153 hg; clear BK153; clear HB; have BK153 := n0_; have HB := n1_; have BK154 := n2_; have GW154 := n3_; have GE154 := n4_; have NB153_154 := n5_; have NB154_153 := n6_; clear n0_ n1_ n2_ n3_ n4_ n5_ n6_; clear hb hbox hg; have hnb7 := NB153_154.out; have hnc7 := NB154_153.out; have hcz8_0 := ck BK153 0; have hcz8_1 := ck BK153 1; have hfz8_0 := blk_frozen BK153.out 0; have hfz8_1 := blk_frozen BK153.out 1; have hcz9_0 := ck BK154 0; have hcz9_1 := ck BK154 1; have hfz9_0 := blk_frozen BK154.out 0; have hfz9_1 := blk_frozen BK154.out 1))
   go_ret
   exact ⟨by first | rfl | (simp [errW_none, errW_some] <;> rfl) | (simp [*, errW_none, errW_some] <;> rfl), by repeat (first | (with_reducible first | exact HB.out | apply below_alloc | apply pw_below_drewN | apply below_drew1 | refine below_set ?_ GE153.out | refine below_set ?_ GE154.out) | exact HB.out)⟩
  ·rw [if_neg c4] at H
   have c4b0 : (a0_1 == a1_1) = false := beq_eq_false_iff_ne.mpr c4
   have c4b1 : (a0_1 != a1_1) = true := bne_iff_ne.mpr c4
   obtain rfl := Option.some.inj H
   go_enter Try.func30, Try.ntmps30
   go_wp2_with (first | ((with_reducible refine gate_dst (N := 2) rfl ?_); refine bx (cs := #[.int .i64 a0_0, .int .i64 a0_1]) (t := 51) ?_; intro gb153 hg w10 hbox hb; have n0_ := sb hb; have n1_ := Aside0.mk (hbox); have n2_ := zb hg; have n3_ := zb hg; clear HB; have HB := n0_; have BK153 := n1_; have GW153 := n2_; have GE153 := n3_; clear n0_ n1_ n2_ n3_; clear hb hbox hg) | ((with_reducible refine gate_dst (N := 3) rfl ?_); refine bx (cs := #[.int .i64 a1_0, .int .i64 a1_1]) (t := 51) ?_; intro gb154 hg w11 hbox hb; have n0_ := kb BK153 hb; have n1_ := sb hb; have n2_ := Aside0.mk (hbox); have n3_ := zb hg; have n4_ := zb hg; have n5_ := nl BK153 hg; have n6_ := ng BK153 hg; clear BK153; clear HB; have BK153 := n0_; have HB := n1_; have BK154 := n2_; have GW154 := n3_; have GE154 := n4_; have NB153_154 := n5_; have NB154_153 := n6_; clear n0_ n1_ n2_ n3_ n4_ n5_ n6_; clear hb hbox hg; have hnb12 := NB153_154.out; have hnc12 := NB154_153.out; have hcz13_0 := ck BK153 0; have hcz13_1 := ck BK153 1; have hfz13_0 := blk_frozen BK153.out 0; have hfz13_1 := blk_frozen BK153.out 1; have hcz14_0 := ck BK154 0; have hcz14_1 := ck BK154 1; have hfz14_0 := blk_frozen BK154.out 0; have hfz14_1 := blk_frozen BK154.out 1))
   go_ret
   exact ⟨by first | rfl | (simp [errW_none, errW_some] <;> rfl) | (simp [*, errW_none, errW_some] <;> rfl), by repeat (first | (with_reducible first | exact HB.out | apply below_alloc | apply pw_below_drewN | apply below_drew1 | refine below_set ?_ GE153.out | refine below_set ?_ GE154.out) | exact HB.out)⟩
 ·rw [if_neg c3] at H
  have c3b0 : (a0_0 == a1_0) = false := beq_eq_false_iff_ne.mpr c3
  have c3b1 : (a0_0 != a1_0) = true := bne_iff_ne.mpr c3
  obtain rfl := Option.some.inj H
  go_enter Try.func30, Try.ntmps30
  go_wp2_with (first | ((with_reducible refine gate_dst (N := 2) rfl ?_); refine bx (cs := #[.int .i64 a0_0, .int .i64 a0_1]) (t := 51) ?_; intro gb153 hg w15 hbox hb; have n0_ := sb hb; have n1_ := Aside0.mk (hbox); have n2_ := zb hg; have n3_ := zb hg; clear HB; have HB := n0_; have BK153 := n1_; have GW153 := n2_; have GE153 := n3_; clear n0_ n1_ n2_ n3_; clear hb hbox hg) | ((with_reducible refine gate_dst (N := 3) rfl ?_); refine bx (cs := #[.int .i64 a1_0, .int .i64 a1_1]) (t := 51) ?_; intro gb154 hg w16 hbox hb; have n0_ := kb BK153 hb; have n1_ := sb hb; have n2_ := Aside0.mk (hbox); have n3_ := zb hg; have n4_ := zb hg; have n5_ := nl BK153 hg; have n6_ := ng BK153 hg; clear BK153; clear HB; have BK153 := n0_; have HB := n1_; have BK154 := n2_; have GW154 := n3_; have GE154 := n4_; have NB153_154 := n5_; have NB154_153 := n6_; clear n0_ n1_ n2_ n3_ n4_ n5_ n6_; clear hb hbox hg; have hnb17 := NB153_154.out; have hnc17 := NB154_153.out; have hcz18_0 := ck BK153 0; have hcz18_1 := ck BK153 1; have hfz18_0 := blk_frozen BK153.out 0; have hfz18_1 := blk_frozen BK153.out 1; have hcz19_0 := ck BK154 0; have hcz19_1 := ck BK154 1; have hfz19_0 := blk_frozen BK154.out 0; have hfz19_1 := blk_frozen BK154.out 1))
  go_ret
  exact ⟨by first | rfl | (simp [errW_none, errW_some] <;> rfl) | (simp [*, errW_none, errW_some] <;> rfl), by repeat (first | (with_reducible first | exact HB.out | apply below_alloc | apply pw_below_drewN | apply below_drew1 | refine below_set ?_ GE153.out | refine below_set ?_ GE154.out) | exact HB.out)⟩
def laws_eqPointS.l0 : Nat → List (S51) → List (S51) → Int → Option (Bool)
 | 0, _, _, _ => none
 | k + 1, x0, x1, x5 => if x5 < (x0.length : Int) then (if 0 ≤ x5 then (if x5 < (x1.length : Int) then ((laws_eqPoint.f ((rd_T51 x0 x5).f0) ((rd_T51 x0 x5).f1) ((rd_T51 x1 x5).f0) ((rd_T51 x1 x5).f1)).bind fun t157 => (if t157 = true then (laws_eqPointS.l0 k x0 x1 (wrap64 (x5 + 1))) else (some false))) else (none)) else (none)) else (some true)
def laws_eqPointS.f (k : Nat) (l0 : List (S51)) (l1 : List (S51)) : Option (Bool) := if (l0.length : Int) = (l1.length : Int) then (laws_eqPointS.l0 k l0 l1 0) else (some false)
theorem laws_eqPointS.mono_l : ∀ k, (∀ y0 y1 y2, LeO (laws_eqPointS.l0 k y0 y1 y2) (laws_eqPointS.l0 (k + 1) y0 y1 y2))
 | 0 => fun _ _ _ r h => by simp [laws_eqPointS.l0] at h
 | k + 1 => by
  have ih0 := laws_eqPointS.mono_l k
  ·intro y0 y1 y2
   unfold laws_eqPointS.l0
   repeat' first
   | (with_reducible exact ih0 _ _ _)
   | (with_reducible exact LeO.refl _)
   | (with_reducible exact LeO.none _)
   | (with_reducible refine LeO.ite ?_ ?_)
   | (with_reducible refine LeO.bind ?_ (fun _ => ?_))
   | exact ih0 _ _ _
   | exact LeO.none _
   | refine LeO.ite ?_ ?_
   | refine LeO.bind ?_ (fun _ => ?_)
theorem laws_eqPointS.mono : ∀ a0 a1 k, LeO (laws_eqPointS.f k a0 a1) (laws_eqPointS.f (k + 1) a0 a1) := by
 intro a0 a1 k
 have ih0 := laws_eqPointS.mono_l k
 unfold laws_eqPointS.f
 repeat' first
   | (with_reducible exact ih0 _ _ _)
   | (with_reducible exact LeO.refl _)
   | (with_reducible exact LeO.none _)
   | (with_reducible refine LeO.ite ?_ ?_)
   | (with_reducible refine LeO.bind ?_ (fun _ => ?_))
   | exact ih0 _ _ _
   | exact LeO.none _
   | refine LeO.ite ?_ ?_
   | refine LeO.bind ?_ (fun _ => ?_)
def laws_eqPointS.T6 : Bool × List (List Nat × List Nat) := (true, [([], []), ([], []), ([0, 1], [0, 1]), ([2], [2]), ([], []), ([], []), ([4, 5], [4, 5]), ([6], [6]), ([3, 7], [3, 7]), ([8], [8])])
def laws_eqPointS.B6 : List Nat := [0, 0, 3, 7, 0, 0, 48, 112, 255, 511]
theorem laws_eqPointS.tab6 : rtab .any (opsOf Try.f10 6) = laws_eqPointS.T6 := by kernel_rfl
theorem laws_eqPointS.bits6 : waitsOk laws_eqPointS.T6.2 laws_eqPointS.B6 = true := by kernel_rfl
set_option maxHeartbeats 8000000 in
set_option maxRecDepth 100000 in
theorem laws_eqPointS.calls (k : Nat) (A0 : Option Addr) (c0 : Nat) (l0 : List (S51)) (A1 : Option Addr) (c1 : Nat) (l1 : List (S51)) (r : Bool) (w : World) (hr0 : Kd.C k51 w A0 l0.length l0) (hc0 : l0.length ≤ c0) (hr1 : Kd.C k51 w A1 l1.length l1) (hc1 : l1.length ≤ c1) (h : laws_eqPointS.f k l0 l1 = some r) :
  Calls Try.prog 10 #[.slice A0 l0.length c0, .slice A1 l1.length c1] w fun e w' => e = .returned (.bool r) ∧ Below w.heap.size w w' := by
 have hu51 := Try.underlying51
 have HR0 := Aside0.mk hr0
 have HC0 := Aside0.mk hc0
 clear hr0 hc0
 have HR1 := Aside0.mk hr1
 have HC1 := Aside0.mk hc1
 clear hr1 hc1
 have HB := Aside0.mk (Below.refl w.heap.size w)
 have H : (if (l0.length : Int) = (l1.length : Int) then (laws_eqPointS.l0 k l0 l1 0) else (some false)) = some r := h
 clear h
 by_cases c3 : (l0.length : Int) = (l1.length : Int)
 ·rw [if_pos c3] at H
  have c3b0 : ((l0.length : Int) == (l1.length : Int)) = true := beq_iff_eq.mpr c3
  have c3b1 : ((l0.length : Int) != (l1.length : Int)) = false := bne_eq_false_iff_eq.mpr c3
  have c3b2 : (l0.length == l1.length) = true := by first | simpa using c3 | (simp at c3 ⊢; omega)
  clear c3
  have H' := Aside0.mk H
  clear H
  go_enter Try.func10, Try.ntmps10
  go_wp2
  go_loopg [5] k (fun kq v5 w' => ∃ (x5_1 : Int), v5 = .int .i64 x5_1 ∧ Aside0 (laws_eqPointS.l0 kq l0 l1 x5_1 = some r) ∧ Aside0 (kq ≤ k) ∧ Aside0 (Below w.heap.size w w'))
  case atStart => exact ⟨(0), (by first | rfl | (simp; done) | (simp [*]; done)), H', ⟨Nat.le_refl _⟩, ⟨by repeat (first | (with_reducible first | exact HB.out | apply below_alloc | apply pw_below_drewN | apply below_drew1) | exact HB.out)⟩⟩
  case round =>
   clear H'
   try clear c1
   try clear p2
   try clear c3
   try clear c3b0
   try clear c3b1
   try clear c3b2
   obtain ⟨x5_1, rfl, HA, HK1, HB⟩ := hrel
   cases gk with
   | zero => exact absurd HA.out (by simp [laws_eqPointS.l0])
   | succ k1 =>
    have H := HA.out
    clear HA
    simp only [laws_eqPointS.l0] at H
    by_cases c4 : x5_1 < (l0.length : Int)
    ·rw [if_pos c4] at H
     have c4b0 : decide (x5_1 < (l0.length : Int)) = true := decide_eq_true c4
     clear c4
     by_cases c5 : 0 ≤ x5_1
     ·rw [if_pos c5] at H
      have c5b0 : decide (0 ≤ x5_1) = true := decide_eq_true c5
      clear c5
      by_cases c6 : x5_1 < (l1.length : Int)
      ·rw [if_pos c6] at H
       have c6b0 : decide (x5_1 < (l1.length : Int)) = true := decide_eq_true c6
       clear c6
       replace H := Option.bind_eq_some_iff.mp H
       obtain ⟨t157, A70, H⟩ := H
       replace H : (if t157 = true then (laws_eqPointS.l0 k1 l0 l1 (wrap64 (x5_1 + 1))) else (some false)) = some r := H
       have A7 := Aside0.mk A70
       clear A70
       by_cases c8 : t157 = true
       ·subst c8
        have H1 : (laws_eqPointS.l0 k1 l0 l1 (wrap64 (x5_1 + 1))) = some r := by rw [if_pos rfl] at H; exact H
        clear H
        have H := H1
        clear H1
        have H' := Aside0.mk H
        clear H
        try go_wp2
        have n0_ := Aside0.mk (below_drew1 HB.out)
        clear HB
        have HB := n0_
        clear n0_
        have p155 : 0 ≤ (x5_1 : Int) := da
        have q155 : x5_1 < (l0.length : Int) := da
        obtain ⟨ad155, e155, hx155_0, hx155_1⟩ := at_T51 HR0.out x5_1 p155 q155
        have hw155_1 := hx155_1
        have hw155_0 := hx155_0
        cases e155
        replace hx155_0 := (HB.out.cell (bL w _ hx155_0)).trans hx155_0
        replace hx155_1 := (HB.out.cell (bL w _ hx155_1)).trans hx155_1
        replace p155 := eq_true p155
        replace q155 := eq_true q155
        have p156 : 0 ≤ (x5_1 : Int) := da
        have q156 : x5_1 < (l1.length : Int) := da
        obtain ⟨ad156, e156, hx156_0, hx156_1⟩ := at_T51 HR1.out x5_1 p156 q156
        have hw156_1 := hx156_1
        have hw156_0 := hx156_0
        cases e156
        replace hx156_0 := (HB.out.cell (bL w _ hx156_0)).trans hx156_0
        replace hx156_1 := (HB.out.cell (bL w _ hx156_1)).trans hx156_1
        replace p156 := eq_true p156
        replace q156 := eq_true q156
        refine start_ (n := 10) (S := fun w' => w'.cell? (ad155.add ((x5_1).toNat * 2)) = some (.int .i64 ((rd_T51 l0 x5_1).f0)) ∧ w'.cell? ⟨(ad155.add ((x5_1).toNat * 2)).block, (ad155.add ((x5_1).toNat * 2)).off + 1, none⟩ = some (.int .i64 ((rd_T51 l0 x5_1).f1)) ∧ w'.cell? (ad156.add ((x5_1).toNat * 2)) = some (.int .i64 ((rd_T51 l1 x5_1).f0)) ∧ w'.cell? ⟨(ad156.add ((x5_1).toNat * 2)).block, (ad156.add ((x5_1).toNat * 2)).off + 1, none⟩ = some (.int .i64 ((rd_T51 l1 x5_1).f1))) (ds := []) #[fF,fF,fF,fF,fF,fF,fF,fF,fF,fF] (by kernel_rfl) rfl rfl ⟨((HB.out.cell (bL w _ hw155_0)).trans hw155_0), ((HB.out.cell (bL w _ hw155_1)).trans hw155_1), ((HB.out.cell (bL w _ hw156_0)).trans hw156_0), ((HB.out.cell (bL w _ hw156_1)).trans hw156_1)⟩ (fun hHeld => ?_); refine with_tabW laws_eqPointS.tab6 laws_eqPointS.bits6 (fun HT_ HW_ => ?_)
        generalize wr.drew = w9 at HB hx155_0 hx155_1 hx156_0 hx156_1 hHeld ⊢
        refine pu 0 17 HT_ ?_
        refine pu 1 18 HT_ ?_
        refine pu 2 19 HT_ ?_
        refine pu 4 21 HT_ ?_
        refine pu 5 22 HT_ ?_
        refine pu 6 23 HT_ ?_
        refine tk 3 20 HT_ HW_ hHeld ?_
        refine tk 7 24 HT_ HW_ hHeld ?_
        refine on 8 25 HT_ (fun K hK => ?_)
        refine goes_ Try.func30 (by kernel_rfl) rfl #[.agg #[.int .i64 ((rd_T51 l0 x5_1).f0), .int .i64 ((rd_T51 l0 x5_1).f1)], .agg #[.int .i64 ((rd_T51 l1 x5_1).f0), .int .i64 ((rd_T51 l1 x5_1).f1)]] (by rfl) rfl rfl (by (try simp only [List.map_toArray, List.map_cons, List.map_nil]); first | done | rfl | (simp only [List.length_drop, List.length_take]; rfl)) ?_
        with_reducible refine (laws_eqPoint.calls ((rd_T51 l0 x5_1).f0) ((rd_T51 l0 x5_1).f1) ((rd_T51 l1 x5_1).f0) ((rd_T51 l1 x5_1).f1) true _ A7.out).mono ?_
        rintro e w10 ⟨rfl, hb⟩
        refine ⟨_, rfl, ?_⟩
        have n0_ := sb hb
        clear HB
        have HB := n0_
        clear n0_
        (try clear hb)
        (try clear hb2)
        (try clear hk)
        (try clear hi)
        refine hK.out _ _ ⟨((HB.out.cell (bL w _ hw155_0)).trans hw155_0), ((HB.out.cell (bL w _ hw155_1)).trans hw155_1), ((HB.out.cell (bL w _ hw156_0)).trans hw156_0), ((HB.out.cell (bL w _ hw156_1)).trans hw156_1)⟩ (fun hHeld => ?_)
        clear hK K
        refine norm_ (a' := ?_) ?_ ?_
        rotate_left
        ·show Act.put _ (some 25) _ = _
         simp only [Act.put, List.setIfInBounds_toArray, List.set_cons_zero, List.set_cons_succ, i64_w, i32_w]
         rfl
        refine pu 9 26 HT_ ?_
        refine done_ (done_of HT_.out (by kernel_rfl)) ?_
        try go_wp2
        go_roundg k1
        case measure => have := HK1.out; omega
        case rel => exact ⟨(wrap64 (x5_1 + 1)), (by first | rfl | (simp; done) | (simp [*]; done)), H', ⟨by have := HK1.out; omega⟩, ⟨by repeat (first | (with_reducible first | exact HB.out | apply below_alloc | apply pw_below_drewN | apply below_drew1) | exact HB.out)⟩⟩
       ·replace c8 := Bool.eq_false_iff.mpr c8
        subst c8
        have H1 : (some false) = some r := by rw [if_neg (show ¬ (false = true) by decide)] at H; exact H
        clear H
        have H := H1
        clear H1
        obtain rfl := Option.some.inj H
        try go_wp2
        have n0_ := Aside0.mk (below_drew1 HB.out)
        clear HB
        have HB := n0_
        clear n0_
        have p155 : 0 ≤ (x5_1 : Int) := da
        have q155 : x5_1 < (l0.length : Int) := da
        obtain ⟨ad155, e155, hx155_0, hx155_1⟩ := at_T51 HR0.out x5_1 p155 q155
        have hw155_1 := hx155_1
        have hw155_0 := hx155_0
        cases e155
        replace hx155_0 := (HB.out.cell (bL w _ hx155_0)).trans hx155_0
        replace hx155_1 := (HB.out.cell (bL w _ hx155_1)).trans hx155_1
        replace p155 := eq_true p155
        replace q155 := eq_true q155
        have p156 : 0 ≤ (x5_1 : Int) := da
        have q156 : x5_1 < (l1.length : Int) := da
        obtain ⟨ad156, e156, hx156_0, hx156_1⟩ := at_T51 HR1.out x5_1 p156 q156
        have hw156_1 := hx156_1
        have hw156_0 := hx156_0
        cases e156
        replace hx156_0 := (HB.out.cell (bL w _ hx156_0)).trans hx156_0
        replace hx156_1 := (HB.out.cell (bL w _ hx156_1)).trans hx156_1
        replace p156 := eq_true p156
        replace q156 := eq_true q156
        refine start_ (n := 10) (S := fun w' => w'.cell? (ad155.add ((x5_1).toNat * 2)) = some (.int .i64 ((rd_T51 l0 x5_1).f0)) ∧ w'.cell? ⟨(ad155.add ((x5_1).toNat * 2)).block, (ad155.add ((x5_1).toNat * 2)).off + 1, none⟩ = some (.int .i64 ((rd_T51 l0 x5_1).f1)) ∧ w'.cell? (ad156.add ((x5_1).toNat * 2)) = some (.int .i64 ((rd_T51 l1 x5_1).f0)) ∧ w'.cell? ⟨(ad156.add ((x5_1).toNat * 2)).block, (ad156.add ((x5_1).toNat * 2)).off + 1, none⟩ = some (.int .i64 ((rd_T51 l1 x5_1).f1))) (ds := []) #[fF,fF,fF,fF,fF,fF,fF,fF,fF,fF] (by kernel_rfl) rfl rfl ⟨((HB.out.cell (bL w _ hw155_0)).trans hw155_0), ((HB.out.cell (bL w _ hw155_1)).trans hw155_1), ((HB.out.cell (bL w _ hw156_0)).trans hw156_0), ((HB.out.cell (bL w _ hw156_1)).trans hw156_1)⟩ (fun hHeld => ?_); refine with_tabW laws_eqPointS.tab6 laws_eqPointS.bits6 (fun HT_ HW_ => ?_)
        generalize wr.drew = w11 at HB hx155_0 hx155_1 hx156_0 hx156_1 hHeld ⊢
        refine pu 0 17 HT_ ?_
        refine pu 1 18 HT_ ?_
        refine pu 2 19 HT_ ?_
        refine pu 4 21 HT_ ?_
        refine pu 5 22 HT_ ?_
        refine pu 6 23 HT_ ?_
        refine tk 3 20 HT_ HW_ hHeld ?_
        refine tk 7 24 HT_ HW_ hHeld ?_
        refine on 8 25 HT_ (fun K hK => ?_)
        refine goes_ Try.func30 (by kernel_rfl) rfl #[.agg #[.int .i64 ((rd_T51 l0 x5_1).f0), .int .i64 ((rd_T51 l0 x5_1).f1)], .agg #[.int .i64 ((rd_T51 l1 x5_1).f0), .int .i64 ((rd_T51 l1 x5_1).f1)]] (by rfl) rfl rfl (by (try simp only [List.map_toArray, List.map_cons, List.map_nil]); first | done | rfl | (simp only [List.length_drop, List.length_take]; rfl)) ?_
        with_reducible refine (laws_eqPoint.calls ((rd_T51 l0 x5_1).f0) ((rd_T51 l0 x5_1).f1) ((rd_T51 l1 x5_1).f0) ((rd_T51 l1 x5_1).f1) false _ A7.out).mono ?_
        rintro e w12 ⟨rfl, hb⟩
        refine ⟨_, rfl, ?_⟩
        have n0_ := sb hb
        clear HB
        have HB := n0_
        clear n0_
        (try clear hb)
        (try clear hb2)
        (try clear hk)
        (try clear hi)
        refine hK.out _ _ ⟨((HB.out.cell (bL w _ hw155_0)).trans hw155_0), ((HB.out.cell (bL w _ hw155_1)).trans hw155_1), ((HB.out.cell (bL w _ hw156_0)).trans hw156_0), ((HB.out.cell (bL w _ hw156_1)).trans hw156_1)⟩ (fun hHeld => ?_)
        clear hK K
        refine norm_ (a' := ?_) ?_ ?_
        rotate_left
        ·show Act.put _ (some 25) _ = _
         simp only [Act.put, List.setIfInBounds_toArray, List.set_cons_zero, List.set_cons_succ, i64_w, i32_w]
         rfl
        refine pu 9 26 HT_ ?_
        refine done_ (done_of HT_.out (by kernel_rfl)) ?_
        try go_wp2
        go_ret
        exact ⟨by first | rfl | (simp [errW_none, errW_some] <;> rfl) | (simp [*, errW_none, errW_some] <;> rfl), by repeat (first | (with_reducible first | exact HB.out | apply below_alloc | apply pw_below_drewN | apply below_drew1) | exact HB.out)⟩
      ·rw [if_neg c6] at H
       exact absurd H (by simp)
     ·rw [if_neg c5] at H
      exact absurd H (by simp)
    ·rw [if_neg c4] at H
     have c4b0 : decide (x5_1 < (l0.length : Int)) = false := decide_eq_false c4
     clear c4
     obtain rfl := Option.some.inj H
     go_wp2
     go_ret
     exact ⟨by first | rfl | (simp [errW_none, errW_some] <;> rfl) | (simp [*, errW_none, errW_some] <;> rfl), by repeat (first | (with_reducible first | exact HB.out | apply below_alloc | apply pw_below_drewN | apply below_drew1) | exact HB.out)⟩
 ·rw [if_neg c3] at H
  have c3b0 : ((l0.length : Int) == (l1.length : Int)) = false := beq_eq_false_iff_ne.mpr c3
  have c3b1 : ((l0.length : Int) != (l1.length : Int)) = true := bne_iff_ne.mpr c3
  have c3b2 : (l0.length == l1.length) = false := by first | simpa using c3 | (simp at c3 ⊢; omega)
  obtain rfl := Option.some.inj H
  go_enter Try.func10, Try.ntmps10
  go_wp2
  go_ret
  exact ⟨by first | rfl | (simp [errW_none, errW_some] <;> rfl) | (simp [*, errW_none, errW_some] <;> rfl), by repeat (first | (with_reducible first | exact HB.out | apply below_alloc | apply pw_below_drewN | apply below_drew1) | exact HB.out)⟩
end Go.Proofs.Ytfhgfdphdmlpbaa.PFnExactSameDrawing
