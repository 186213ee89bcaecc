/- Contracts of functions that FnExactDiagonalsOf reaches, out of the lines of the kit's print. -/
import Derived.Test.YtnnchaggdnlfmaaQFnExactDiagonalsOfx0
import Derived.Test.YtnnchaggdnlfmaaQFnExactDiagonalsOfx2
import Derived.Test.YtnnchaggdnlfmaaQFnExactDiagonalsOfx7
import Derived.Test.YtnnchaggdnlfmaaQFnExactDiagonalsOfx12
namespace Go.Proofs.Ytnnchaggdnlfmaa.PFnExactDiagonalsOf
open Go.RowKit Go.Proofs.YtnnchaggdnlfmaaW.PrintWords Go.Proofs.YtnnchaggdnlfmaaW.PrintLast Go.Proofs.YtnnchaggdnlfmaaW.PrintMore
open Bool renaming true → tT, false → fF
open Go.World renaming block_lt_of_cell? → bL
attribute [local go_sem] max2_int min2_int max_two min_two max_three min_three max_four min_four
set_option linter.unusedVariables false
set_option linter.unusedSimpArgs false
def laws_heldInt64S.l0 : Nat → List Int → Int → Int → Option (Int)
 | 0, _, _, _ => none
 | k + 1, x0, x1, x5 => if x5 < (x0.length : Int) then (if 0 ≤ x5 then (if (rd x0 x5) = x1 then (laws_heldInt64S.l0 k x0 (wrap64 (x1 + 1)) (wrap64 (x5 + 1))) else (some (-1))) else (none)) else (some x1)
def laws_heldInt64S.f (k : Nat) (l0 : List Int) (a1 : Int) : Option (Int) := laws_heldInt64S.l0 k l0 a1 0
theorem laws_heldInt64S.mono_l : ∀ k, (∀ y0 y1 y2, LeO (laws_heldInt64S.l0 k y0 y1 y2) (laws_heldInt64S.l0 (k + 1) y0 y1 y2))
 | 0 => fun _ _ _ r h => by simp [laws_heldInt64S.l0] at h
 | k + 1 => by
  have ih0 := laws_heldInt64S.mono_l k
  ·intro y0 y1 y2
   unfold laws_heldInt64S.l0
   repeat' first
   | (with_reducible exact ih0 _ _ _)
   | (with_reducible exact LeO.refl _)
   | (with_reducible exact LeO.none _)
   | (with_reducible refine LeO.ite ?_ ?_)
   | (with_reducible refine LeO.bind ?_ (fun _ => ?_))
   | exact ih0 _ _ _
   | exact LeO.none _
   | refine LeO.ite ?_ ?_
   | refine LeO.bind ?_ (fun _ => ?_)
theorem laws_heldInt64S.mono : ∀ a0 a1 k, LeO (laws_heldInt64S.f k a0 a1) (laws_heldInt64S.f (k + 1) a0 a1) := by
 intro a0 a1 k
 have ih0 := laws_heldInt64S.mono_l k
 unfold laws_heldInt64S.f
 repeat' first
   | (with_reducible exact ih0 _ _ _)
   | (with_reducible exact LeO.refl _)
   | (with_reducible exact LeO.none _)
   | (with_reducible refine LeO.ite ?_ ?_)
   | (with_reducible refine LeO.bind ?_ (fun _ => ?_))
   | exact ih0 _ _ _
   | exact LeO.none _
   | refine LeO.ite ?_ ?_
   | refine LeO.bind ?_ (fun _ => ?_)
set_option maxHeartbeats 8000000 in
set_option maxRecDepth 100000 in
theorem laws_heldInt64S.calls (k : Nat) (A0 : Option Addr) (c0 : Nat) (l0 : List Int) (a1 : Int) (r : Int) (w : World) (hr0 : Kd.C (Kd.int .i64) w A0 l0.length l0) (hc0 : l0.length ≤ c0) (h : laws_heldInt64S.f k l0 a1 = some r) :
  Calls Try.prog 48 #[.slice A0 l0.length c0, .int .i64 a1] w fun e w' => e = .returned (.int .i64 r) ∧ Drawn0 w w' := by
 have HR0 := Aside0.mk hr0
 have HC0 := Aside0.mk hc0
 clear hr0 hc0
 have H : (laws_heldInt64S.l0 k l0 a1 0) = some r := h
 clear h
 have H' := Aside0.mk H
 clear H
 go_enter Try.func48, Try.ntmps48
 go_wp2
 go_loopg [1, 5] k (fun kq v1 v5 w' => ∃ (x1_1 : Int) (x5_1 : Int), v1 = .int .i64 x1_1 ∧ v5 = .int .i64 x5_1 ∧ Aside0 (laws_heldInt64S.l0 kq l0 x1_1 x5_1 = some r) ∧ Aside0 (kq ≤ k) ∧ Drawn0 w w')
 case atStart => exact ⟨(a1), (0), (by first | rfl | (simp; done) | (simp [*]; done)), (by first | rfl | (simp; done) | (simp [*]; done)), H', ⟨Nat.le_refl _⟩, by repeat (first | exact Drawn0.refl _ | apply Drawn0.step)⟩
 case round =>
  clear H'
  try clear p2
  obtain ⟨x1_1, x5_1, rfl, rfl, HA, HK1, ⟨m1, rfl⟩⟩ := hrel
  cases gk with
  | zero => exact absurd HA.out (by simp [laws_heldInt64S.l0])
  | succ k1 =>
   have H := HA.out
   clear HA
   simp only [laws_heldInt64S.l0] at H
   by_cases c3 : x5_1 < (l0.length : Int)
   ·rw [if_pos c3] at H
    have c3b0 : decide (x5_1 < (l0.length : Int)) = true := decide_eq_true c3
    clear c3
    by_cases c4 : 0 ≤ x5_1
    ·rw [if_pos c4] at H
     have c4b0 : decide (0 ≤ x5_1) = true := decide_eq_true c4
     clear c4
     by_cases c5 : (rd l0 x5_1) = x1_1
     ·rw [if_pos c5] at H
      have c5b0 : ((rd l0 x5_1) == x1_1) = true := beq_iff_eq.mpr c5
      have c5b1 : ((rd l0 x5_1) != x1_1) = false := bne_eq_false_iff_eq.mpr c5
      clear c5
      have H' := Aside0.mk H
      clear H
      have p293 : 0 ≤ (x5_1 : Int) := da
      have q293 : x5_1 < (l0.length : Int) := da
      obtain ⟨ad293, e293, hx293_0⟩ := Kd.at_int HR0.out x5_1 p293 q293
      cases e293
      replace p293 := eq_true p293
      replace q293 := eq_true q293
      go_wp2
      go_roundg k1
      case measure => have := HK1.out; omega
      case rel => exact ⟨(wrap64 (x1_1 + 1)), (wrap64 (x5_1 + 1)), (by first | rfl | (simp; done) | (simp [*]; done)), (by first | rfl | (simp; done) | (simp [*]; done)), H', ⟨by have := HK1.out; omega⟩, by repeat (first | exact Drawn0.refl _ | apply Drawn0.step)⟩
     ·rw [if_neg c5] at H
      have c5b0 : ((rd l0 x5_1) == x1_1) = false := beq_eq_false_iff_ne.mpr c5
      have c5b1 : ((rd l0 x5_1) != x1_1) = true := bne_iff_ne.mpr c5
      obtain rfl := Option.some.inj H
      have p293 : 0 ≤ (x5_1 : Int) := da
      have q293 : x5_1 < (l0.length : Int) := da
      obtain ⟨ad293, e293, hx293_0⟩ := Kd.at_int HR0.out x5_1 p293 q293
      cases e293
      replace p293 := eq_true p293
      replace q293 := eq_true q293
      go_wp2
      go_ret
      exact ⟨by first | rfl | (simp; done) | (simp [*]; done), by repeat (first | exact Drawn0.refl _ | apply Drawn0.step)⟩
    ·rw [if_neg c4] at H
     exact absurd H (by simp)
   ·rw [if_neg c3] at H
    have c3b0 : decide (x5_1 < (l0.length : Int)) = false := decide_eq_false c3
    clear c3
    obtain rfl := Option.some.inj H
    go_wp2
    go_ret
    exact ⟨by first | rfl | (simp; done) | (simp [*]; done), by repeat (first | exact Drawn0.refl _ | apply Drawn0.step)⟩
def laws_heldInt64SS.l0 : Nat → List (List Int) → Int → Int → Option (Int)
 | 0, _, _, _ => none
 | k + 1, x0, x1, x5 => if x5 < (x0.length : Int) then (if 0 ≤ x5 then ((laws_heldInt64S.f k (rd_L3 x0 x5) x1).bind fun t295 => (if t295 < 0 then (some (-1)) else (laws_heldInt64SS.l0 k x0 t295 (wrap64 (x5 + 1))))) else (none)) else (some x1)
def laws_heldInt64SS.f (k : Nat) (l0 : List (List Int)) (a1 : Int) : Option (Int) := laws_heldInt64SS.l0 k l0 a1 0
theorem laws_heldInt64SS.mono_l : ∀ k, (∀ y0 y1 y2, LeO (laws_heldInt64SS.l0 k y0 y1 y2) (laws_heldInt64SS.l0 (k + 1) y0 y1 y2))
 | 0 => fun _ _ _ r h => by simp [laws_heldInt64SS.l0] at h
 | k + 1 => by
  have ih0 := laws_heldInt64SS.mono_l k
  ·intro y0 y1 y2
   unfold laws_heldInt64SS.l0
   repeat' first
   | (with_reducible exact ih0 _ _ _)
   | (with_reducible exact laws_heldInt64S.mono _ _ _)
   | (with_reducible exact LeO.refl _)
   | (with_reducible exact LeO.none _)
   | (with_reducible refine LeO.ite ?_ ?_)
   | (with_reducible refine LeO.bind ?_ (fun _ => ?_))
   | exact ih0 _ _ _
   | exact laws_heldInt64S.mono _ _ _
   | exact LeO.none _
   | refine LeO.ite ?_ ?_
   | refine LeO.bind ?_ (fun _ => ?_)
theorem laws_heldInt64SS.mono : ∀ a0 a1 k, LeO (laws_heldInt64SS.f k a0 a1) (laws_heldInt64SS.f (k + 1) a0 a1) := by
 intro a0 a1 k
 have ih0 := laws_heldInt64SS.mono_l k
 unfold laws_heldInt64SS.f
 repeat' first
   | (with_reducible exact ih0 _ _ _)
   | (with_reducible exact laws_heldInt64S.mono _ _ _)
   | (with_reducible exact LeO.refl _)
   | (with_reducible exact LeO.none _)
   | (with_reducible refine LeO.ite ?_ ?_)
   | (with_reducible refine LeO.bind ?_ (fun _ => ?_))
   | exact ih0 _ _ _
   | exact laws_heldInt64S.mono _ _ _
   | exact LeO.none _
   | refine LeO.ite ?_ ?_
   | refine LeO.bind ?_ (fun _ => ?_)
set_option maxHeartbeats 8000000 in
set_option maxRecDepth 100000 in
theorem laws_heldInt64SS.calls (k : Nat) (A0 : Option Addr) (c0 : Nat) (l0 : List (List Int)) (a1 : Int) (r : Int) (w : World) (hr0 : Kd.C (Kd.slice 2 (Kd.int .i64)) w A0 l0.length l0) (hc0 : l0.length ≤ c0) (h : laws_heldInt64SS.f k l0 a1 = some r) :
  Calls Try.prog 25 #[.slice A0 l0.length c0, .int .i64 a1] w fun e w' => e = .returned (.int .i64 r) ∧ Drawn0 w w' := by
 have HR0 := Aside0.mk hr0
 have HC0 := Aside0.mk hc0
 clear hr0 hc0
 have H : (laws_heldInt64SS.l0 k l0 a1 0) = some r := h
 clear h
 have H' := Aside0.mk H
 clear H
 go_enter Try.func25, Try.ntmps25
 go_wp2
 go_loopg [1, 5] k (fun kq v1 v5 w' => ∃ (x1_1 : Int) (x5_1 : Int), v1 = .int .i64 x1_1 ∧ v5 = .int .i64 x5_1 ∧ Aside0 (laws_heldInt64SS.l0 kq l0 x1_1 x5_1 = some r) ∧ Aside0 (kq ≤ k) ∧ Drawn0 w w')
 case atStart => exact ⟨(a1), (0), (by first | rfl | (simp; done) | (simp [*]; done)), (by first | rfl | (simp; done) | (simp [*]; done)), H', ⟨Nat.le_refl _⟩, by repeat (first | exact Drawn0.refl _ | apply Drawn0.step)⟩
 case round =>
  clear H'
  try clear c2
  try clear p2
  obtain ⟨x1_1, x5_1, rfl, rfl, HA, HK1, ⟨m1, rfl⟩⟩ := hrel
  cases gk with
  | zero => exact absurd HA.out (by simp [laws_heldInt64SS.l0])
  | succ k1 =>
   have H := HA.out
   clear HA
   simp only [laws_heldInt64SS.l0] at H
   by_cases c3 : x5_1 < (l0.length : Int)
   ·rw [if_pos c3] at H
    have c3b0 : decide (x5_1 < (l0.length : Int)) = true := decide_eq_true c3
    clear c3
    by_cases c4 : 0 ≤ x5_1
    ·rw [if_pos c4] at H
     have c4b0 : decide (0 ≤ x5_1) = true := decide_eq_true c4
     clear c4
     replace H := Option.bind_eq_some_iff.mp H
     obtain ⟨t295, A50, H⟩ := H
     replace H : (if t295 < 0 then (some (-1)) else (laws_heldInt64SS.l0 k1 l0 t295 (wrap64 (x5_1 + 1)))) = some r := H
     have A5 := Aside0.mk A50
     clear A50
     by_cases c6 : t295 < 0
     ·rw [if_pos c6] at H
      have c6b0 : decide (t295 < 0) = true := decide_eq_true c6
      clear c6
      obtain rfl := Option.some.inj H
      have p294 : 0 ≤ (x5_1 : Int) := da
      have q294 : x5_1 < (l0.length : Int) := da
      obtain ⟨ad294, A294_0, c294_0, e294, hx294_0, hl294_0, hi294_0⟩ := at_L3 HR0.out x5_1 p294 q294
      cases e294
      have HR294_0 := Aside0.mk hi294_0
      have HC294_0 := Aside0.mk hl294_0
      clear hi294_0 hl294_0
      replace p294 := eq_true p294
      replace q294 := eq_true q294
      go_wp2_with (first | ((with_reducible refine gate_callee (f := 48) rfl ?_); refine goesL_ (some 17) rfl rfl Try.func48 (by kernel_rfl) rfl #[.slice A294_0 (rd_L3 l0 x5_1).length c294_0, .int .i64 x1_1] rfl (by (try simp only [List.map_toArray, List.map_cons, List.map_nil]); first | done | rfl | (simp only [List.length_drop, List.length_take]; rfl)) ?_; (with_reducible refine (laws_heldInt64S.calls k1 _ _ (rd_L3 l0 x5_1) x1_1 t295 _ ?side1 ?side2 A5.out).mono ?_); (case side1 => repeat (first | exact HR294_0.out | (with_reducible refine Kd.C_alloc ?_ _) | (with_reducible refine Kd.C_drewN ?_ _) | (with_reducible refine Kd.C_drew ?_))); (case side2 => exact HC294_0.out); rintro e w' ⟨rfl, ⟨nd, rfl⟩⟩; refine ⟨_, rfl, ?_⟩))
      go_ret
      exact ⟨by first | rfl | (simp; done) | (simp [*]; done), by repeat (first | exact Drawn0.refl _ | apply Drawn0.step)⟩
     ·rw [if_neg c6] at H
      have c6b0 : decide (t295 < 0) = false := decide_eq_false c6
      clear c6
      have H' := Aside0.mk H
      clear H
      have p294 : 0 ≤ (x5_1 : Int) := da
      have q294 : x5_1 < (l0.length : Int) := da
      obtain ⟨ad294, A294_0, c294_0, e294, hx294_0, hl294_0, hi294_0⟩ := at_L3 HR0.out x5_1 p294 q294
      cases e294
      have HR294_0 := Aside0.mk hi294_0
      have HC294_0 := Aside0.mk hl294_0
      clear hi294_0 hl294_0
      replace p294 := eq_true p294
      replace q294 := eq_true q294
      go_wp2_with (first | ((with_reducible refine gate_callee (f := 48) rfl ?_); refine goesL_ (some 17) rfl rfl Try.func48 (by kernel_rfl) rfl #[.slice A294_0 (rd_L3 l0 x5_1).length c294_0, .int .i64 x1_1] rfl (by (try simp only [List.map_toArray, List.map_cons, List.map_nil]); first | done | rfl | (simp only [List.length_drop, List.length_take]; rfl)) ?_; (with_reducible refine (laws_heldInt64S.calls k1 _ _ (rd_L3 l0 x5_1) x1_1 t295 _ ?side1 ?side2 A5.out).mono ?_); (case side1 => repeat (first | exact HR294_0.out | (with_reducible refine Kd.C_alloc ?_ _) | (with_reducible refine Kd.C_drewN ?_ _) | (with_reducible refine Kd.C_drew ?_))); (case side2 => exact HC294_0.out); rintro e w' ⟨rfl, ⟨nd, rfl⟩⟩; refine ⟨_, rfl, ?_⟩))
      go_roundg k1
      case measure => have := HK1.out; omega
      case rel => exact ⟨(t295), (wrap64 (x5_1 + 1)), (by first | rfl | (simp; done) | (simp [*]; done)), (by first | rfl | (simp; done) | (simp [*]; done)), H', ⟨by have := HK1.out; omega⟩, by repeat (first | exact Drawn0.refl _ | apply Drawn0.step)⟩
    ·rw [if_neg c4] at H
     exact absurd H (by simp)
   ·rw [if_neg c3] at H
    have c3b0 : decide (x5_1 < (l0.length : Int)) = false := decide_eq_false c3
    clear c3
    obtain rfl := Option.some.inj H
    go_wp2
    go_ret
    exact ⟨by first | rfl | (simp; done) | (simp [*]; done), by repeat (first | exact Drawn0.refl _ | apply Drawn0.step)⟩
mutual
def laws_FnExactDiagonalsOf.j0 : Nat → List (S75) → List (List Int) → Int → List (S73) → List (List Int) → Int → Bool → Option (Bool)
 | 0, _, _, _, _, _, _, _ => none
 | k + 1, x0, x4, x5, x6, x7, x8, x40 => if x40 = true then (some false) else ((laws_toPointS.f k x0).bind fun t312 => ((laws_eqPointS.f k x6 t312).bind fun t315 => (if t315 = true then ((laws_markPointS.f k x6 1).bind fun bt316 => (if bt316.1 < 0 then (laws_FnExactDiagonalsOf.j1 k x0 x4 x5 x7 true) else ((laws_eqInt64SS.f k x7 x4).bind fun t318 => (if t318 = true then (laws_FnExactDiagonalsOf.j1 k x0 x4 x5 x7 (x8 != x5)) else (laws_FnExactDiagonalsOf.j1 k x0 x4 x5 x7 true))))) else (some false))))
def laws_FnExactDiagonalsOf.j1 : Nat → List (S75) → List (List Int) → Int → List (List Int) → Bool → Option (Bool)
 | 0, _, _, _, _, _ => none
 | k + 1, x0, x4, x5, x7, x61 => if x61 = true then (some false) else ((laws_markInt64SS.f k x7 1).bind fun bt319 => ((laws_heldInt64SS.f k bt319.2 1).bind fun t321 => (if t321 < 0 then (some false) else (if t321 = bt319.1 then ((laws_toPointS.f k x0).bind fun t322 => ((impl_DiagonalsOf.f k t322).bind fun bt325 => ((laws_eqInt64SS.f k bt325.1 x4).bind fun t329 => (if t329 = true then (laws_FnExactDiagonalsOf.j2 k bt319.2 bt319.1 (bt325.2 != x5)) else (laws_FnExactDiagonalsOf.j2 k bt319.2 bt319.1 true))))) else (some false)))))
def laws_FnExactDiagonalsOf.j2 : Nat → List (List Int) → Int → Bool → Option (Bool)
 | 0, _, _, _ => none
 | k + 1, x7, x10, x87 => if x87 = true then (some false) else ((laws_heldInt64SS.f k x7 1).bind fun t330 => (if t330 < 0 then (some false) else (if t330 = x10 then (some true) else (some false))))
end
def laws_FnExactDiagonalsOf.f (k : Nat) (l0 : List (S75)) : Option (Bool) := (laws_szPointS.f l0 1048576).bind fun t296 => (if t296 < 0 then (some true) else ((laws_toPointS.f k l0).bind fun t297 => ((spec_DiagonalsOf.f k t297).bind fun bt300 => ((laws_toPointS.f k l0).bind fun t304 => ((impl_DiagonalsOf.f k t304).bind fun bt307 => ((laws_eqInt64SS.f k bt307.1 bt300.1).bind fun t311 => (if t311 = true then (laws_FnExactDiagonalsOf.j0 k l0 bt300.1 bt300.2 t304 bt307.1 bt307.2 (bt307.2 != bt300.2)) else (laws_FnExactDiagonalsOf.j0 k l0 bt300.1 bt300.2 t304 bt307.1 bt307.2 true))))))))
theorem laws_FnExactDiagonalsOf.mono_l : ∀ k, (∀ y0 y1 y2 y3 y4 y5 y6, LeO (laws_FnExactDiagonalsOf.j0 k y0 y1 y2 y3 y4 y5 y6) (laws_FnExactDiagonalsOf.j0 (k + 1) y0 y1 y2 y3 y4 y5 y6)) ∧ (∀ y0 y1 y2 y3 y4, LeO (laws_FnExactDiagonalsOf.j1 k y0 y1 y2 y3 y4) (laws_FnExactDiagonalsOf.j1 (k + 1) y0 y1 y2 y3 y4)) ∧ (∀ y0 y1 y2, LeO (laws_FnExactDiagonalsOf.j2 k y0 y1 y2) (laws_FnExactDiagonalsOf.j2 (k + 1) y0 y1 y2))
 | 0 => ⟨fun _ _ _ _ _ _ _ r h => by simp [laws_FnExactDiagonalsOf.j0] at h, fun _ _ _ _ _ r h => by simp [laws_FnExactDiagonalsOf.j1] at h, fun _ _ _ r h => by simp [laws_FnExactDiagonalsOf.j2] at h⟩
 | k + 1 => by
  obtain ⟨ih0, ih1, ih2⟩ := laws_FnExactDiagonalsOf.mono_l k
  refine ⟨?_, ?_, ?_⟩
  ·intro y0 y1 y2 y3 y4 y5 y6
   unfold laws_FnExactDiagonalsOf.j0
   repeat' first
   | (with_reducible exact ih0 _ _ _ _ _ _ _)
   | (with_reducible exact ih1 _ _ _ _ _)
   | (with_reducible exact ih2 _ _ _)
   | (with_reducible exact impl_DiagonalsOf.mono _ _)
   | (with_reducible exact laws_eqInt64SS.mono _ _ _)
   | (with_reducible exact laws_eqPointS.mono _ _ _)
   | (with_reducible exact laws_heldInt64SS.mono _ _ _)
   | (with_reducible exact laws_markInt64SS.mono _ _ _)
   | (with_reducible exact laws_markPointS.mono _ _ _)
   | (with_reducible exact laws_toPointS.mono _ _)
   | (with_reducible exact spec_DiagonalsOf.mono _ _)
   | (with_reducible exact LeO.refl _)
   | (with_reducible exact LeO.none _)
   | (with_reducible refine LeO.ite ?_ ?_)
   | (with_reducible refine LeO.bind ?_ (fun _ => ?_))
   | exact ih0 _ _ _ _ _ _ _
   | exact ih1 _ _ _ _ _
   | exact ih2 _ _ _
   | exact impl_DiagonalsOf.mono _ _
   | exact laws_eqInt64SS.mono _ _ _
   | exact laws_eqPointS.mono _ _ _
   | exact laws_heldInt64SS.mono _ _ _
   | exact laws_markInt64SS.mono _ _ _
   | exact laws_markPointS.mono _ _ _
   | exact laws_toPointS.mono _ _
   | exact spec_DiagonalsOf.mono _ _
   | exact LeO.none _
   | refine LeO.ite ?_ ?_
   | refine LeO.bind ?_ (fun _ => ?_)
  ·intro y0 y1 y2 y3 y4
   unfold laws_FnExactDiagonalsOf.j1
   repeat' first
   | (with_reducible exact ih0 _ _ _ _ _ _ _)
   | (with_reducible exact ih1 _ _ _ _ _)
   | (with_reducible exact ih2 _ _ _)
   | (with_reducible exact impl_DiagonalsOf.mono _ _)
   | (with_reducible exact laws_eqInt64SS.mono _ _ _)
   | (with_reducible exact laws_eqPointS.mono _ _ _)
   | (with_reducible exact laws_heldInt64SS.mono _ _ _)
   | (with_reducible exact laws_markInt64SS.mono _ _ _)
   | (with_reducible exact laws_markPointS.mono _ _ _)
   | (with_reducible exact laws_toPointS.mono _ _)
   | (with_reducible exact spec_DiagonalsOf.mono _ _)
   | (with_reducible exact LeO.refl _)
   | (with_reducible exact LeO.none _)
   | (with_reducible refine LeO.ite ?_ ?_)
   | (with_reducible refine LeO.bind ?_ (fun _ => ?_))
   | exact ih0 _ _ _ _ _ _ _
   | exact ih1 _ _ _ _ _
   | exact ih2 _ _ _
   | exact impl_DiagonalsOf.mono _ _
   | exact laws_eqInt64SS.mono _ _ _
   | exact laws_eqPointS.mono _ _ _
   | exact laws_heldInt64SS.mono _ _ _
   | exact laws_markInt64SS.mono _ _ _
   | exact laws_markPointS.mono _ _ _
   | exact laws_toPointS.mono _ _
   | exact spec_DiagonalsOf.mono _ _
   | exact LeO.none _
   | refine LeO.ite ?_ ?_
   | refine LeO.bind ?_ (fun _ => ?_)
  ·intro y0 y1 y2
   unfold laws_FnExactDiagonalsOf.j2
   repeat' first
   | (with_reducible exact ih0 _ _ _ _ _ _ _)
   | (with_reducible exact ih1 _ _ _ _ _)
   | (with_reducible exact ih2 _ _ _)
   | (with_reducible exact impl_DiagonalsOf.mono _ _)
   | (with_reducible exact laws_eqInt64SS.mono _ _ _)
   | (with_reducible exact laws_eqPointS.mono _ _ _)
   | (with_reducible exact laws_heldInt64SS.mono _ _ _)
   | (with_reducible exact laws_markInt64SS.mono _ _ _)
   | (with_reducible exact laws_markPointS.mono _ _ _)
   | (with_reducible exact laws_toPointS.mono _ _)
   | (with_reducible exact spec_DiagonalsOf.mono _ _)
   | (with_reducible exact LeO.refl _)
   | (with_reducible exact LeO.none _)
   | (with_reducible refine LeO.ite ?_ ?_)
   | (with_reducible refine LeO.bind ?_ (fun _ => ?_))
   | exact ih0 _ _ _ _ _ _ _
   | exact ih1 _ _ _ _ _
   | exact ih2 _ _ _
   | exact impl_DiagonalsOf.mono _ _
   | exact laws_eqInt64SS.mono _ _ _
   | exact laws_eqPointS.mono _ _ _
   | exact laws_heldInt64SS.mono _ _ _
   | exact laws_markInt64SS.mono _ _ _
   | exact laws_markPointS.mono _ _ _
   | exact laws_toPointS.mono _ _
   | exact spec_DiagonalsOf.mono _ _
   | exact LeO.none _
   | refine LeO.ite ?_ ?_
   | refine LeO.bind ?_ (fun _ => ?_)
theorem laws_FnExactDiagonalsOf.mono : ∀ a0 k, LeO (laws_FnExactDiagonalsOf.f k a0) (laws_FnExactDiagonalsOf.f (k + 1) a0) := by
 intro a0 k
 obtain ⟨ih0, ih1, ih2⟩ := laws_FnExactDiagonalsOf.mono_l k
 unfold laws_FnExactDiagonalsOf.f
 repeat' first
   | (with_reducible exact ih0 _ _ _ _ _ _ _)
   | (with_reducible exact ih1 _ _ _ _ _)
   | (with_reducible exact ih2 _ _ _)
   | (with_reducible exact impl_DiagonalsOf.mono _ _)
   | (with_reducible exact laws_eqInt64SS.mono _ _ _)
   | (with_reducible exact laws_eqPointS.mono _ _ _)
   | (with_reducible exact laws_heldInt64SS.mono _ _ _)
   | (with_reducible exact laws_markInt64SS.mono _ _ _)
   | (with_reducible exact laws_markPointS.mono _ _ _)
   | (with_reducible exact laws_toPointS.mono _ _)
   | (with_reducible exact spec_DiagonalsOf.mono _ _)
   | (with_reducible exact LeO.refl _)
   | (with_reducible exact LeO.none _)
   | (with_reducible refine LeO.ite ?_ ?_)
   | (with_reducible refine LeO.bind ?_ (fun _ => ?_))
   | exact ih0 _ _ _ _ _ _ _
   | exact ih1 _ _ _ _ _
   | exact ih2 _ _ _
   | exact impl_DiagonalsOf.mono _ _
   | exact laws_eqInt64SS.mono _ _ _
   | exact laws_eqPointS.mono _ _ _
   | exact laws_heldInt64SS.mono _ _ _
   | exact laws_markInt64SS.mono _ _ _
   | exact laws_markPointS.mono _ _ _
   | exact laws_toPointS.mono _ _
   | exact spec_DiagonalsOf.mono _ _
   | exact LeO.none _
   | refine LeO.ite ?_ ?_
   | refine LeO.bind ?_ (fun _ => ?_)
set_option maxHeartbeats 8000000 in
set_option maxRecDepth 100000 in
theorem laws_FnExactDiagonalsOf.calls (k : Nat) (A0 : Option Addr) (c0 : Nat) (l0 : List (S75)) (w : World) (hr0 : Kd.C k75 w A0 l0.length l0) (hc0 : l0.length ≤ c0) (h : laws_FnExactDiagonalsOf.f k l0 = some true) :
  Calls Try.prog 4 #[.slice A0 l0.length c0] w fun e w' => e = .returned (.bool true) ∧ Below w.heap.size w w' := by
 have HR0 := Aside0.mk hr0
 have HC0 := Aside0.mk hc0
 clear hr0 hc0
 have HB := Aside0.mk (Below.refl w.heap.size w)
 have H : ((laws_szPointS.f l0 1048576).bind fun t296 => (if t296 < 0 then (some true) else ((laws_toPointS.f k l0).bind fun t297 => ((spec_DiagonalsOf.f k t297).bind fun bt300 => ((laws_toPointS.f k l0).bind fun t304 => ((impl_DiagonalsOf.f k t304).bind fun bt307 => ((laws_eqInt64SS.f k bt307.1 bt300.1).bind fun t311 => (if t311 = true then (laws_FnExactDiagonalsOf.j0 k l0 bt300.1 bt300.2 t304 bt307.1 bt307.2 (bt307.2 != bt300.2)) else (laws_FnExactDiagonalsOf.j0 k l0 bt300.1 bt300.2 t304 bt307.1 bt307.2 true))))))))) = some true := h
 clear h
 obtain ⟨t1, A10_, H⟩ := Option.bind_eq_some_iff.mp H
 have A1 := Aside0.mk A10_
 clear A10_
 by_cases c1 : t1 < 0
 ·have c1b0 : decide (t1 < 0) = true := decide_eq_true c1
  clear c1 H
  go_enter Try.func4, Try.ntmps4
  go_wp2_with (first | ((with_reducible refine gate_callee (f := 15) rfl ?_); refine goesL_ _ rfl rfl Try.func15 (by kernel_rfl) rfl #[.slice A0 l0.length c0, .int .i64 1048576] rfl (by (try simp only [List.map_toArray, List.map_cons, List.map_nil]); first | done | rfl | (simp only [List.length_drop, List.length_take]; rfl)) ?_; (with_reducible refine (laws_szPointS.calls _ _ l0 1048576 t1 _ (by repeat (first | exact (Kd.C_below HR0.out ib) | (with_reducible refine Kd.C_alloc ?_ _) | (with_reducible refine Kd.C_drewN ?_ _) | (with_reducible refine Kd.C_drew ?_))) HC0.out A1.out).mono ?_); rintro e w5 ⟨rfl, ⟨nd, rfl⟩⟩; refine ⟨_, rfl, ?_⟩; clear A1))
  go_ret
  exact ⟨(by first | rfl | (simp; done) | (simp [*]; done)), ib⟩
 ·replace H := (if_neg c1).symm.trans H
  have c1b0 : decide (t1 < 0) = false := decide_eq_false c1
  clear c1
  obtain ⟨t2, A2_, H⟩ := Option.bind_eq_some_iff.mp H
  obtain ⟨⟨t3, t4⟩, A3_, H⟩ := Option.bind_eq_some_iff.mp H
  obtain ⟨t5, A5_, H⟩ := Option.bind_eq_some_iff.mp H
  obtain ⟨⟨t6, t7⟩, A6_, H⟩ := Option.bind_eq_some_iff.mp H
  obtain ⟨t8, A8_, H⟩ := Option.bind_eq_some_iff.mp H
  have jt : ∀ (k : Nat) a b c d e f, laws_FnExactDiagonalsOf.j0 k a b c d e f true = some true → False := fun k a b c d e f h => by cases k <;> simp [laws_FnExactDiagonalsOf.j0] at h
  have jt1 : ∀ (k : Nat) a b c d, laws_FnExactDiagonalsOf.j1 k a b c d true = some true → False := fun k a b c d h => by cases k <;> simp [laws_FnExactDiagonalsOf.j1] at h
  have jt2 : ∀ (k : Nat) a b, laws_FnExactDiagonalsOf.j2 k a b true = some true → False := fun k a b h => by cases k <;> simp [laws_FnExactDiagonalsOf.j2] at h
  cases t8 with
  | false => exact (jt _ _ _ _ _ _ _ ((if_neg (show ¬ (false = true) by decide)).symm.trans H)).elim
  | true =>
  replace H : laws_FnExactDiagonalsOf.j0 k l0 t3 t4 t5 t6 t7 (t7 != t4) = some true := (if_pos rfl).symm.trans H
  cases e1 : (t7 != t4) with
  | true => rw [e1] at H; exact (jt _ _ _ _ _ _ _ H).elim
  | false =>
  rw [e1] at H
  cases k with
  | zero => exact absurd H (by simp [laws_FnExactDiagonalsOf.j0])
  | succ k1 =>
  simp only [laws_FnExactDiagonalsOf.j0, Bool.false_eq_true, if_false] at H
  obtain ⟨t9, A9_, H⟩ := Option.bind_eq_some_iff.mp H
  obtain ⟨t10, A10_, H⟩ := Option.bind_eq_some_iff.mp H
  cases t10 with
  | false => exact absurd H (by simp)
  | true =>
  replace H := (if_pos rfl).symm.trans H
  obtain ⟨⟨t11, t12⟩, A11_, H⟩ := Option.bind_eq_some_iff.mp H
  by_cases c2 : t11 < 0
  ·exact (jt1 _ _ _ _ _ ((if_pos c2).symm.trans H)).elim
  replace H := (if_neg c2).symm.trans H
  have c2b0 : decide (t11 < 0) = false := decide_eq_false c2
  clear c2
  obtain ⟨t13, A13_, H⟩ := Option.bind_eq_some_iff.mp H
  cases t13 with
  | false => exact (jt1 _ _ _ _ _ ((if_neg (show ¬ (false = true) by decide)).symm.trans H)).elim
  | true =>
  replace H := (if_pos rfl).symm.trans H
  rw [e1] at H
  cases k1 with
  | zero => exact absurd H (by simp [laws_FnExactDiagonalsOf.j1])
  | succ k2 =>
  simp only [laws_FnExactDiagonalsOf.j1, Bool.false_eq_true, if_false] at H
  obtain ⟨⟨t14, t15⟩, A14_, H⟩ := Option.bind_eq_some_iff.mp H
  obtain ⟨t16, A16_, H⟩ := Option.bind_eq_some_iff.mp H
  by_cases c3 : t16 < 0
  ·exact absurd ((if_pos c3).symm.trans H) (by simp)
  replace H := (if_neg c3).symm.trans H
  by_cases c4 : t16 = t14
  case neg => exact absurd ((if_neg c4).symm.trans H) (by simp)
  replace H := (if_pos c4).symm.trans H
  subst c4
  have c3b0 : decide (t16 < 0) = false := decide_eq_false c3
  clear c3
  obtain ⟨t17, A17_, H⟩ := Option.bind_eq_some_iff.mp H
  obtain ⟨⟨t18, t19⟩, A18_, H⟩ := Option.bind_eq_some_iff.mp H
  obtain ⟨t20, A20_, H⟩ := Option.bind_eq_some_iff.mp H
  cases t20 with
  | false => exact (jt2 _ _ _ ((if_neg (show ¬ (false = true) by decide)).symm.trans H)).elim
  | true =>
  replace H : laws_FnExactDiagonalsOf.j2 k2 t15 t16 (t19 != t4) = some true := (if_pos rfl).symm.trans H
  cases e2 : (t19 != t4) with
  | true => rw [e2] at H; exact (jt2 _ _ _ H).elim
  | false =>
  rw [e2] at H
  cases k2 with
  | zero => exact absurd H (by simp [laws_FnExactDiagonalsOf.j2])
  | succ k3 =>
  simp only [laws_FnExactDiagonalsOf.j2, Bool.false_eq_true, if_false] at H
  obtain ⟨t21, A21_, H⟩ := Option.bind_eq_some_iff.mp H
  by_cases c5 : t21 < 0
  ·exact absurd ((if_pos c5).symm.trans H) (by simp)
  replace H := (if_neg c5).symm.trans H
  by_cases c6 : t21 = t16
  case neg => exact absurd ((if_neg c6).symm.trans H) (by simp)
  subst c6
  clear H c5 jt jt1 jt2
  have A2 := Aside0.mk A2_; have A3 := Aside0.mk A3_; have A5 := Aside0.mk A5_; have A6 := Aside0.mk A6_; have A8 := Aside0.mk A8_; have A9 := Aside0.mk A9_; have A10 := Aside0.mk A10_; have A11 := Aside0.mk A11_; have A13 := Aside0.mk A13_; have A14 := Aside0.mk A14_; have A16 := Aside0.mk A16_; have A17 := Aside0.mk A17_; have A18 := Aside0.mk A18_; have A20 := Aside0.mk A20_; have A21 := Aside0.mk A21_
  clear A2_ A3_ A5_ A6_ A8_ A9_ A10_ A11_ A13_ A14_ A16_ A17_ A18_ A20_ A21_
  go_enter Try.func4, Try.ntmps4
  go_wp2_with (first | ((with_reducible refine gate_callee (f := 15) rfl ?_); refine goesL_ _ rfl rfl Try.func15 (by kernel_rfl) rfl #[.slice A0 l0.length c0, .int .i64 1048576] rfl (by (try simp only [List.map_toArray, List.map_cons, List.map_nil]); first | done | rfl | (simp only [List.length_drop, List.length_take]; rfl)) ?_; (with_reducible refine (laws_szPointS.calls _ _ l0 1048576 t1 _ (by repeat (first | exact (Kd.C_below HR0.out ib) | (with_reducible refine Kd.C_alloc ?_ _) | (with_reducible refine Kd.C_drewN ?_ _) | (with_reducible refine Kd.C_drew ?_))) HC0.out A1.out).mono ?_); rintro e w5 ⟨rfl, ⟨nd, rfl⟩⟩; refine ⟨_, rfl, ?_⟩; clear A1) | ((with_reducible refine gate_callee (f := 17) rfl ?_); refine goesL_ _ rfl rfl Try.func17 (by kernel_rfl) rfl #[.slice A0 l0.length c0] rfl (by (try simp only [List.map_toArray, List.map_cons, List.map_nil]); first | done | rfl | (simp only [List.length_drop, List.length_take]; rfl)) ?_; (with_reducible refine (laws_toPointS.calls _ _ _ l0 t2 _ (by repeat (first | exact (Kd.C_below HR0.out ib) | (with_reducible refine Kd.C_alloc ?_ _) | (with_reducible refine Kd.C_drewN ?_ _) | (with_reducible refine Kd.C_drew ?_))) HC0.out A2.out).mono ?_); rintro e w5 ⟨v0_, rfl, ho, hb⟩; refine ⟨_, rfl, ?_⟩; have XT := Aside0.mk ho; have HBn_ := sb hb; clear HB; have HB := HBn_; clear HBn_; clear A2; obtain ⟨AT_, cT_, eT_⟩ := Kd.R_slice XT.out; subst eT_) | ((with_reducible refine gate_callee (f := 20) rfl ?_); refine goesL_ _ rfl rfl Try.func20 (by kernel_rfl) rfl #[.slice AT_ t2.length cT_] rfl (by (try simp only [List.map_toArray, List.map_cons, List.map_nil]); first | done | rfl | (simp only [List.length_drop, List.length_take]; rfl)) ?_; (with_reducible refine (spec_DiagonalsOf.calls _ _ _ t2 t3 t4 _ (by repeat (first | exact (Kd.R_reads' XT.out).2.2 | (with_reducible refine Kd.C_alloc ?_ _) | (with_reducible refine Kd.C_drewN ?_ _) | (with_reducible refine Kd.C_drew ?_))) (Kd.R_reads' XT.out).2.1 A3.out).mono ?_); rintro e w5 ⟨v0_, rfl, ho, hb⟩; refine ⟨_, rfl, ?_⟩; obtain ⟨N1, hN1⟩ : ∃ n_, n_ = w5.heap.size := ⟨_, rfl⟩; have G0 := Aside0.mk (Kd.S_mono (ok' := fun k_ => k_ < N1) (Kd.S_lower (Kd.S_bound ho) (show Below w.heap.size w _ from ib).size) (fun k_ hk_ => by rw [hN1]; exact hk_.2.2.1)); have B1 := Aside0.mk (Nat.le_of_eq hN1); have HBn_ := sb hb; clear HB; have HB := HBn_; clear HBn_; clear A3 XT hN1; obtain ⟨AG, cG, eG_⟩ := Kd.S_slice G0.out; subst eG_) | ((with_reducible refine gate_callee (f := 17) rfl ?_); refine goesL_ _ rfl rfl Try.func17 (by kernel_rfl) rfl #[.slice A0 l0.length c0] rfl (by (try simp only [List.map_toArray, List.map_cons, List.map_nil]); first | done | rfl | (simp only [List.length_drop, List.length_take]; rfl)) ?_; (with_reducible refine (laws_toPointS.calls _ _ _ l0 t5 _ (by repeat (first | exact (Kd.C_below HR0.out ib) | (with_reducible refine Kd.C_alloc ?_ _) | (with_reducible refine Kd.C_drewN ?_ _) | (with_reducible refine Kd.C_drew ?_))) HC0.out A5.out).mono ?_); rintro e w5 ⟨v0_, rfl, ho, hb⟩; refine ⟨_, rfl, ?_⟩; have G0n_ := Aside0.mk (Kd.S_below (by (with_reducible repeat (first | apply Kd.S_alloc | apply Kd.S_drewN | apply Kd.S_drew)); exact G0.out) hb); obtain ⟨N2, hN2⟩ : ∃ n_, n_ = w5.heap.size := ⟨_, rfl⟩; have X0 := Aside0.mk (Kd.R_mono (ok' := fun k_ => N1 ≤ k_ ∧ k_ < N2) (Kd.R_lower (Kd.R_bound ho) (show Below w.heap.size w _ from ib).size) (fun k_ hk_ => ⟨Nat.le_trans B1.out hk_.2.1, by rw [hN2]; exact hk_.2.2.1⟩)); have B2 := Aside0.mk (Nat.le_of_eq hN2); have B12 := Aside0.mk (show N1 ≤ N2 by rw [hN2]; exact Nat.le_trans B1.out hb.size); have HBn_ := sb hb; clear HB; have HB := HBn_; clear HBn_; clear G0; have G0 := G0n_; clear G0n_; clear A5 hN2; obtain ⟨AX, cX, eX_⟩ := Kd.R_slice X0.out; subst eX_) | ((with_reducible refine gate_callee (f := 21) rfl ?_); refine goesL_ _ rfl rfl Try.func21 (by kernel_rfl) rfl #[.slice AX t5.length cX] rfl (by (try simp only [List.map_toArray, List.map_cons, List.map_nil]); first | done | rfl | (simp only [List.length_drop, List.length_take]; rfl)) ?_; (with_reducible refine (impl_DiagonalsOf.calls _ _ _ t5 t6 t7 _ (by repeat (first | exact (Kd.R_reads' X0.out).2.2 | (with_reducible refine Kd.C_alloc ?_ _) | (with_reducible refine Kd.C_drewN ?_ _) | (with_reducible refine Kd.C_drew ?_))) (Kd.R_reads' X0.out).2.1 A6.out).mono ?_); rintro e w5 ⟨v0_, rfl, ho, hb⟩; refine ⟨_, rfl, ?_⟩; have G0n_ := Aside0.mk (Kd.S_below (by (with_reducible repeat (first | apply Kd.S_alloc | apply Kd.S_drewN | apply Kd.S_drew)); exact G0.out) hb); have X0n_ := Aside0.mk (Kd.R_below (by (with_reducible repeat (first | apply Kd.R_alloc | apply Kd.R_drewN | apply Kd.R_drew)); exact X0.out) hb); have G1 := Aside0.mk (Kd.S_mono (ok' := fun k_ => N2 ≤ k_) (Kd.S_lower (Kd.S_bound ho) (show Below w.heap.size w _ from ib).size) (fun k_ hk_ => Nat.le_trans B2.out hk_.2.1)); have HBn_ := sb hb; clear HB; have HB := HBn_; clear HBn_; clear G0; have G0 := G0n_; clear G0n_; clear X0; have X0 := X0n_; clear X0n_; clear A6; obtain ⟨AI, cI, eI_⟩ := Kd.S_slice G1.out; subst eI_) | ((with_reducible refine gate_callee (f := 22) rfl ?_); refine goesL_ _ rfl rfl Try.func22 (by kernel_rfl) rfl #[.slice AI t6.length cI, .slice AG t3.length cG] rfl (by (try simp only [List.map_toArray, List.map_cons, List.map_nil]); first | done | rfl | (simp only [List.length_drop, List.length_take]; rfl)) ?_; (with_reducible refine (laws_eqInt64SS.calls _ _ _ t6 _ _ t3 true _ (by repeat (first | exact (Kd.S_reads' G1.out).2.2 | (with_reducible refine Kd.C_alloc ?_ _) | (with_reducible refine Kd.C_drewN ?_ _) | (with_reducible refine Kd.C_drew ?_))) (Kd.S_reads' G1.out).2.1 (by repeat (first | exact (Kd.S_reads' G0.out).2.2 | (with_reducible refine Kd.C_alloc ?_ _) | (with_reducible refine Kd.C_drewN ?_ _) | (with_reducible refine Kd.C_drew ?_))) (Kd.S_reads' G0.out).2.1 A8.out).mono ?_); rintro e w5 ⟨rfl, ⟨nd, rfl⟩⟩; refine ⟨_, rfl, ?_⟩; clear A8) | ((with_reducible refine gate_callee (f := 17) rfl ?_); refine goesL_ _ rfl rfl Try.func17 (by kernel_rfl) rfl #[.slice A0 l0.length c0] rfl (by (try simp only [List.map_toArray, List.map_cons, List.map_nil]); first | done | rfl | (simp only [List.length_drop, List.length_take]; rfl)) ?_; (with_reducible refine (laws_toPointS.calls _ _ _ l0 t9 _ (by repeat (first | exact (Kd.C_below HR0.out ib) | (with_reducible refine Kd.C_alloc ?_ _) | (with_reducible refine Kd.C_drewN ?_ _) | (with_reducible refine Kd.C_drew ?_))) HC0.out A9.out).mono ?_); rintro e w5 ⟨v0_, rfl, ho, hb⟩; refine ⟨_, rfl, ?_⟩; have G0n_ := Aside0.mk (Kd.S_below (by (with_reducible repeat (first | apply Kd.S_alloc | apply Kd.S_drewN | apply Kd.S_drew)); exact G0.out) hb); have X0n_ := Aside0.mk (Kd.R_below (by (with_reducible repeat (first | apply Kd.R_alloc | apply Kd.R_drewN | apply Kd.R_drew)); exact X0.out) hb); have G1n_ := Aside0.mk (Kd.S_below (by (with_reducible repeat (first | apply Kd.S_alloc | apply Kd.S_drewN | apply Kd.S_drew)); exact G1.out) hb); have XQ := Aside0.mk ho; have HBn_ := sb hb; clear HB; have HB := HBn_; clear HBn_; clear G0; have G0 := G0n_; clear G0n_; clear X0; have X0 := X0n_; clear X0n_; clear G1; have G1 := G1n_; clear G1n_; clear A9; obtain ⟨AQ, cQ, eQ_⟩ := Kd.R_slice XQ.out; subst eQ_) | ((with_reducible refine gate_callee (f := 19) rfl ?_); refine goesL_ _ rfl rfl Try.func19 (by kernel_rfl) rfl #[.slice AX t5.length cX, .slice AQ t9.length cQ] rfl (by (try simp only [List.map_toArray, List.map_cons, List.map_nil]); first | done | rfl | (simp only [List.length_drop, List.length_take]; rfl)) ?_; (with_reducible refine (laws_eqPointS.calls _ _ _ t5 _ _ t9 true _ (by repeat (first | exact (Kd.R_reads' X0.out).2.2 | (with_reducible refine Kd.C_alloc ?_ _) | (with_reducible refine Kd.C_drewN ?_ _) | (with_reducible refine Kd.C_drew ?_))) (Kd.R_reads' X0.out).2.1 (by repeat (first | exact (Kd.R_reads' XQ.out).2.2 | (with_reducible refine Kd.C_alloc ?_ _) | (with_reducible refine Kd.C_drewN ?_ _) | (with_reducible refine Kd.C_drew ?_))) (Kd.R_reads' XQ.out).2.1 A10.out).mono ?_); rintro e w5 ⟨rfl, hb⟩; refine ⟨_, rfl, ?_⟩; have G0n_ := Aside0.mk (Kd.S_below (by (with_reducible repeat (first | apply Kd.S_alloc | apply Kd.S_drewN | apply Kd.S_drew)); exact G0.out) hb); have X0n_ := Aside0.mk (Kd.R_below (by (with_reducible repeat (first | apply Kd.R_alloc | apply Kd.R_drewN | apply Kd.R_drew)); exact X0.out) hb); have G1n_ := Aside0.mk (Kd.S_below (by (with_reducible repeat (first | apply Kd.S_alloc | apply Kd.S_drewN | apply Kd.S_drew)); exact G1.out) hb); have HBn_ := sb hb; clear HB; have HB := HBn_; clear HBn_; clear G0; have G0 := G0n_; clear G0n_; clear X0; have X0 := X0n_; clear X0n_; clear G1; have G1 := G1n_; clear G1n_; clear A10 XQ hb) | ((with_reducible refine gate_callee (f := 23) rfl ?_); refine goesL_ _ rfl rfl Try.func23 (by kernel_rfl) rfl #[.slice AX t5.length cX, .int .i64 1] rfl (by (try simp only [List.map_toArray, List.map_cons, List.map_nil]); first | done | rfl | (simp only [List.length_drop, List.length_take]; rfl)) ?_; (with_reducible refine (laws_markPointS.calls _ (fun k_ => N1 ≤ k_ ∧ k_ < N2) _ t5 1 t11 t12 w _ ib (by (with_reducible repeat (first | apply Kd.R_alloc | apply Kd.R_drewN | apply Kd.R_drew)); exact X0.out) A11.out).mono ?_); rintro e w5 ⟨rfl, ho, hb, hk⟩; refine ⟨_, rfl, ?_⟩; have G0n_ := Aside0.mk (Kd.S_step (by (with_reducible repeat (first | apply Kd.S_alloc | apply Kd.S_drewN | apply Kd.S_drew)); exact G0.out) (fun k_ h1_ hlt => hk.2 k_ hlt (fun h2_ => Nat.not_lt.2 h2_.1 h1_))); have G1n_ := Aside0.mk (Kd.S_step (by (with_reducible repeat (first | apply Kd.S_alloc | apply Kd.S_drewN | apply Kd.S_drew)); exact G1.out) (fun k_ h1_ hlt => hk.2 k_ hlt (fun h2_ => Nat.not_lt.2 h1_ h2_.2))); have HBn_ := Aside0.mk hb; clear HB X0; have HB := HBn_; clear HBn_ hk ho hb; clear G0; have G0 := G0n_; clear G0n_; clear G1; have G1 := G1n_; clear G1n_; clear A11) | (go_at_call 22; (with_reducible refine (laws_eqInt64SS.calls _ _ _ t6 _ _ t3 true _ (by repeat (first | exact (Kd.S_reads' G1.out).2.2 | (with_reducible refine Kd.C_alloc ?_ _) | (with_reducible refine Kd.C_drewN ?_ _) | (with_reducible refine Kd.C_drew ?_))) (Kd.S_reads' G1.out).2.1 (by repeat (first | exact (Kd.S_reads' G0.out).2.2 | (with_reducible refine Kd.C_alloc ?_ _) | (with_reducible refine Kd.C_drewN ?_ _) | (with_reducible refine Kd.C_drew ?_))) (Kd.S_reads' G0.out).2.1 A13.out).mono ?_); rintro e w5 ⟨rfl, ⟨nd, rfl⟩⟩; clear A13) | ((with_reducible refine gate_callee (f := 24) rfl ?_); refine goesL_ _ rfl rfl Try.func24 (by kernel_rfl) rfl #[.slice AI t6.length cI, .int .i64 1] rfl (by (try simp only [List.map_toArray, List.map_cons, List.map_nil]); first | done | rfl | (simp only [List.length_drop, List.length_take]; rfl)) ?_; (with_reducible refine (laws_markInt64SS.calls _ (fun k_ => N2 ≤ k_) _ t6 1 t21 t15 w _ ib (by (with_reducible repeat (first | apply Kd.S_alloc | apply Kd.S_drewN | apply Kd.S_drew)); exact G1.out) A14.out).mono ?_); rintro e w5 ⟨rfl, ho, hb, hk⟩; refine ⟨_, rfl, ?_⟩; have G0n_ := Aside0.mk (Kd.S_step (by (with_reducible repeat (first | apply Kd.S_alloc | apply Kd.S_drewN | apply Kd.S_drew)); exact G0.out) (fun k_ h1_ hlt => hk.2 k_ hlt (fun h2_ => Nat.not_lt.2 (Nat.le_trans B12.out h2_) h1_))); have HBn_ := Aside0.mk hb; have G2 := Aside0.mk (Kd.S_mono (ok' := fun _ => True) ho (fun _ _ => trivial)); clear HB G1; have HB := HBn_; clear HBn_ hk ho hb; clear G0; have G0 := G0n_; clear G0n_; clear A14; have eL_ : t15.length = t6.length := (Kd.S_reads' G2.out).1.symm; have G2n_ := Aside0.mk (show Kd.S (Kd.slice 2 (Kd.int .i64)) 57 w5 w.heap.size (fun _ => True) (.slice AI t15.length cI) t15 by (rw [eL_]; exact G2.out)); clear G2; have G2 := G2n_; clear G2n_; rw [← eL_]; clear eL_) | ((with_reducible refine gate_callee (f := 25) rfl ?_); refine goesL_ _ rfl rfl Try.func25 (by kernel_rfl) rfl #[.slice AI t15.length cI, .int .i64 1] rfl (by (try simp only [List.map_toArray, List.map_cons, List.map_nil]); first | done | rfl | (simp only [List.length_drop, List.length_take]; rfl)) ?_; (with_reducible refine (laws_heldInt64SS.calls _ _ _ t15 1 t21 _ (by repeat (first | exact (Kd.S_reads' G2.out).2.2 | (with_reducible refine Kd.C_alloc ?_ _) | (with_reducible refine Kd.C_drewN ?_ _) | (with_reducible refine Kd.C_drew ?_))) (Kd.S_reads' G2.out).2.1 A16.out).mono ?_); rintro e w5 ⟨rfl, ⟨nd, rfl⟩⟩; refine ⟨_, rfl, ?_⟩; clear A16) | ((with_reducible refine gate_callee (f := 17) rfl ?_); refine goesL_ _ rfl rfl Try.func17 (by kernel_rfl) rfl #[.slice A0 l0.length c0] rfl (by (try simp only [List.map_toArray, List.map_cons, List.map_nil]); first | done | rfl | (simp only [List.length_drop, List.length_take]; rfl)) ?_; (with_reducible refine (laws_toPointS.calls _ _ _ l0 t17 _ (by repeat (first | exact (Kd.C_below HR0.out ib) | (with_reducible refine Kd.C_alloc ?_ _) | (with_reducible refine Kd.C_drewN ?_ _) | (with_reducible refine Kd.C_drew ?_))) HC0.out A17.out).mono ?_); rintro e w5 ⟨v0_, rfl, ho, hb⟩; refine ⟨_, rfl, ?_⟩; have G0n_ := Aside0.mk (Kd.S_below (by (with_reducible repeat (first | apply Kd.S_alloc | apply Kd.S_drewN | apply Kd.S_drew)); exact G0.out) hb); have G2n_ := Aside0.mk (Kd.S_below (by (with_reducible repeat (first | apply Kd.S_alloc | apply Kd.S_drewN | apply Kd.S_drew)); exact G2.out) hb); have XT := Aside0.mk ho; have HBn_ := sb hb; clear HB; have HB := HBn_; clear HBn_; clear G0; have G0 := G0n_; clear G0n_; clear G2; have G2 := G2n_; clear G2n_; clear A17; obtain ⟨AT_, cT_, eT_⟩ := Kd.R_slice XT.out; subst eT_) | ((with_reducible refine gate_callee (f := 21) rfl ?_); refine goesL_ _ rfl rfl Try.func21 (by kernel_rfl) rfl #[.slice AT_ t17.length cT_] rfl (by (try simp only [List.map_toArray, List.map_cons, List.map_nil]); first | done | rfl | (simp only [List.length_drop, List.length_take]; rfl)) ?_; (with_reducible refine (impl_DiagonalsOf.calls _ _ _ t17 t18 t19 _ (by repeat (first | exact (Kd.R_reads' XT.out).2.2 | (with_reducible refine Kd.C_alloc ?_ _) | (with_reducible refine Kd.C_drewN ?_ _) | (with_reducible refine Kd.C_drew ?_))) (Kd.R_reads' XT.out).2.1 A18.out).mono ?_); rintro e w5 ⟨v0_, rfl, ho, hb⟩; refine ⟨_, rfl, ?_⟩; have G0n_ := Aside0.mk (Kd.S_below (by (with_reducible repeat (first | apply Kd.S_alloc | apply Kd.S_drewN | apply Kd.S_drew)); exact G0.out) hb); have G2n_ := Aside0.mk (Kd.S_below (by (with_reducible repeat (first | apply Kd.S_alloc | apply Kd.S_drewN | apply Kd.S_drew)); exact G2.out) hb); have G3 := Aside0.mk ho; have HBn_ := sb hb; clear HB; have HB := HBn_; clear HBn_; clear G0; have G0 := G0n_; clear G0n_; clear G2; have G2 := G2n_; clear G2n_; clear A18 XT; obtain ⟨AH, cH, eH_⟩ := Kd.S_slice G3.out; subst eH_) | ((with_reducible refine gate_callee (f := 22) rfl ?_); refine goesL_ _ rfl rfl Try.func22 (by kernel_rfl) rfl #[.slice AH t18.length cH, .slice AG t3.length cG] rfl (by (try simp only [List.map_toArray, List.map_cons, List.map_nil]); first | done | rfl | (simp only [List.length_drop, List.length_take]; rfl)) ?_; (with_reducible refine (laws_eqInt64SS.calls _ _ _ t18 _ _ t3 true _ (by repeat (first | exact (Kd.S_reads' G3.out).2.2 | (with_reducible refine Kd.C_alloc ?_ _) | (with_reducible refine Kd.C_drewN ?_ _) | (with_reducible refine Kd.C_drew ?_))) (Kd.S_reads' G3.out).2.1 (by repeat (first | exact (Kd.S_reads' G0.out).2.2 | (with_reducible refine Kd.C_alloc ?_ _) | (with_reducible refine Kd.C_drewN ?_ _) | (with_reducible refine Kd.C_drew ?_))) (Kd.S_reads' G0.out).2.1 A20.out).mono ?_); rintro e w5 ⟨rfl, ⟨nd, rfl⟩⟩; refine ⟨_, rfl, ?_⟩; clear A20) | ((with_reducible refine gate_callee (f := 25) rfl ?_); refine goesL_ _ rfl rfl Try.func25 (by kernel_rfl) rfl #[.slice AI t15.length cI, .int .i64 1] rfl (by (try simp only [List.map_toArray, List.map_cons, List.map_nil]); first | done | rfl | (simp only [List.length_drop, List.length_take]; rfl)) ?_; (with_reducible refine (laws_heldInt64SS.calls _ _ _ t15 1 t21 _ (by repeat (first | exact (Kd.S_reads' G2.out).2.2 | (with_reducible refine Kd.C_alloc ?_ _) | (with_reducible refine Kd.C_drewN ?_ _) | (with_reducible refine Kd.C_drew ?_))) (Kd.S_reads' G2.out).2.1 A21.out).mono ?_); rintro e w5 ⟨rfl, ⟨nd, rfl⟩⟩; refine ⟨_, rfl, ?_⟩; clear A21))
  go_ret
  exact ⟨(by first | rfl | (simp; done) | (simp [*]; done)), ib⟩
end Go.Proofs.Ytnnchaggdnlfmaa.PFnExactDiagonalsOf
