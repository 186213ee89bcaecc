/- Contracts of functions that FnExactFaceAt reaches, out of the lines of the kit's print. -/
import Derived.Test.YtlfifbalakgfeaaQFnExactFaceAtx0
import Derived.Test.YtlfifbalakgfeaaQFnExactFaceAtx4
namespace Go.Proofs.Ytlfifbalakgfeaa.PFnExactFaceAt
open Go.RowKit Go.Proofs.YtlfifbalakgfeaaW.PrintWords Go.Proofs.YtlfifbalakgfeaaW.PrintLast Go.Proofs.YtlfifbalakgfeaaW.PrintMore
open Bool renaming true → tT, false → fF
open Go.World renaming block_lt_of_cell? → bL
attribute [local go_sem] max2_int min2_int max_two min_two max_three min_three max_four min_four
set_option linter.unusedVariables false
set_option linter.unusedSimpArgs false
def spec_l01Small.f (a0 : Int) : Option (Bool) := if a0 ≥ 97 then (some (decide (a0 ≤ 122))) else (some false)
set_option maxHeartbeats 8000000 in
set_option maxRecDepth 100000 in
theorem spec_l01Small.calls (a0 : Int) (r : Bool) (w : World) (h : spec_l01Small.f a0 = some r) :
  Calls Try.prog 88 #[.int .u8 a0] w fun e w' => e = .returned (.bool r) ∧ Drawn0 w w' := by
 have H : (if a0 ≥ 97 then (some (decide (a0 ≤ 122))) else (some false)) = some r := h
 clear h
 by_cases c2 : a0 ≥ 97
 ·rw [if_pos c2] at H
  have c2b0 : decide (97 ≤ a0) = true := decide_eq_true c2
  clear c2
  obtain rfl := Option.some.inj H
  go_enter Try.func88, Try.ntmps88
  go_wp2
  go_ret
  exact ⟨by first | rfl | (simp; done) | (simp [*]; done), by repeat (first | exact Drawn0.refl _ | apply Drawn0.step)⟩
 ·rw [if_neg c2] at H
  have c2b0 : decide (97 ≤ a0) = false := decide_eq_false c2
  clear c2
  obtain rfl := Option.some.inj H
  go_enter Try.func88, Try.ntmps88
  go_wp2
  go_ret
  exact ⟨by first | rfl | (simp; done) | (simp [*]; done), by repeat (first | exact Drawn0.refl _ | apply Drawn0.step)⟩
def spec_l01Digit.f (a0 : Int) : Option (Bool) := if a0 ≥ 48 then (some (decide (a0 ≤ 57))) else (some false)
set_option maxHeartbeats 8000000 in
set_option maxRecDepth 100000 in
theorem spec_l01Digit.calls (a0 : Int) (r : Bool) (w : World) (h : spec_l01Digit.f a0 = some r) :
  Calls Try.prog 89 #[.int .u8 a0] w fun e w' => e = .returned (.bool r) ∧ Drawn0 w w' := by
 have H : (if a0 ≥ 48 then (some (decide (a0 ≤ 57))) else (some false)) = some r := h
 clear h
 by_cases c2 : a0 ≥ 48
 ·rw [if_pos c2] at H
  have c2b0 : decide (48 ≤ a0) = true := decide_eq_true c2
  clear c2
  obtain rfl := Option.some.inj H
  go_enter Try.func89, Try.ntmps89
  go_wp2
  go_ret
  exact ⟨by first | rfl | (simp; done) | (simp [*]; done), by repeat (first | exact Drawn0.refl _ | apply Drawn0.step)⟩
 ·rw [if_neg c2] at H
  have c2b0 : decide (48 ≤ a0) = false := decide_eq_false c2
  clear c2
  obtain rfl := Option.some.inj H
  go_enter Try.func89, Try.ntmps89
  go_wp2
  go_ret
  exact ⟨by first | rfl | (simp; done) | (simp [*]; done), by repeat (first | exact Drawn0.refl _ | apply Drawn0.step)⟩
mutual
def spec_l01Name.j0 : Nat → ByteArray → Bool → Option (Bool)
 | 0, _, _ => none
 | k + 1, x0, x16 => if x16 = true then (some false) else (spec_l01Name.l0 k x0 0)
def spec_l01Name.l0 : Nat → ByteArray → Int → Option (Bool)
 | 0, _, _ => none
 | k + 1, x0, x3 => if x3 < (x0.size : Int) then (if 0 ≤ x3 then ((spec_l01Small.f (bt x0 x3)).bind fun t171 => (if t171 = true then (spec_l01Name.l0 k x0 (wrap64 (x3 + 1))) else ((spec_l01Digit.f (bt x0 x3)).bind fun t172 => (if t172 = true then (spec_l01Name.l0 k x0 (wrap64 (x3 + 1))) else (some false))))) else (none)) else (some true)
end
def spec_l01Name.f (k : Nat) (a0 : ByteArray) : Option (Bool) := if a0.toList = ([] : List UInt8) then (spec_l01Name.j0 k a0 true) else (if (a0.size : Int) > 10 then (spec_l01Name.j0 k a0 true) else (if 0 < (a0.size : Int) then ((spec_l01Small.f (bt a0 0)).bind fun t170 => (spec_l01Name.j0 k a0 (!t170))) else (none)))
theorem spec_l01Name.mono_l : ∀ k, (∀ y0 y1, LeO (spec_l01Name.j0 k y0 y1) (spec_l01Name.j0 (k + 1) y0 y1)) ∧ (∀ y0 y1, LeO (spec_l01Name.l0 k y0 y1) (spec_l01Name.l0 (k + 1) y0 y1))
 | 0 => ⟨fun _ _ r h => by simp [spec_l01Name.j0] at h, fun _ _ r h => by simp [spec_l01Name.l0] at h⟩
 | k + 1 => by
  obtain ⟨ih0, ih1⟩ := spec_l01Name.mono_l k
  refine ⟨?_, ?_⟩
  ·intro y0 y1
   unfold spec_l01Name.j0
   repeat' first
   | (with_reducible exact ih0 _ _)
   | (with_reducible exact ih1 _ _)
   | (with_reducible exact LeO.refl _)
   | (with_reducible exact LeO.none _)
   | (with_reducible refine LeO.ite ?_ ?_)
   | (with_reducible refine LeO.bind ?_ (fun _ => ?_))
   | exact ih0 _ _
   | exact ih1 _ _
   | exact LeO.none _
   | refine LeO.ite ?_ ?_
   | refine LeO.bind ?_ (fun _ => ?_)
  ·intro y0 y1
   unfold spec_l01Name.l0
   repeat' first
   | (with_reducible exact ih0 _ _)
   | (with_reducible exact ih1 _ _)
   | (with_reducible exact LeO.refl _)
   | (with_reducible exact LeO.none _)
   | (with_reducible refine LeO.ite ?_ ?_)
   | (with_reducible refine LeO.bind ?_ (fun _ => ?_))
   | exact ih0 _ _
   | exact ih1 _ _
   | exact LeO.none _
   | refine LeO.ite ?_ ?_
   | refine LeO.bind ?_ (fun _ => ?_)
theorem spec_l01Name.mono : ∀ a0 k, LeO (spec_l01Name.f k a0) (spec_l01Name.f (k + 1) a0) := by
 intro a0 k
 obtain ⟨ih0, ih1⟩ := spec_l01Name.mono_l k
 unfold spec_l01Name.f
 repeat' first
   | (with_reducible exact ih0 _ _)
   | (with_reducible exact ih1 _ _)
   | (with_reducible exact LeO.refl _)
   | (with_reducible exact LeO.none _)
   | (with_reducible refine LeO.ite ?_ ?_)
   | (with_reducible refine LeO.bind ?_ (fun _ => ?_))
   | exact ih0 _ _
   | exact ih1 _ _
   | exact LeO.none _
   | refine LeO.ite ?_ ?_
   | refine LeO.bind ?_ (fun _ => ?_)
set_option maxHeartbeats 8000000 in
set_option maxRecDepth 100000 in
theorem spec_l01Name.calls (k : Nat) (a0 : ByteArray) (r : Bool) (w : World) (h : spec_l01Name.f k a0 = some r) :
  Calls Try.prog 67 #[.string a0] w fun e w' => e = .returned (.bool r) ∧ Drawn0 w w' := by
 have H : (if a0.toList = ([] : List UInt8) then (spec_l01Name.j0 k a0 true) else (if (a0.size : Int) > 10 then (spec_l01Name.j0 k a0 true) else (if 0 < (a0.size : Int) then ((spec_l01Small.f (bt a0 0)).bind fun t170 => (spec_l01Name.j0 k a0 (!t170))) else (none)))) = some r := h
 clear h
 have HC2 := Aside0.mk H
 clear H
 go_enter Try.func67, Try.ntmps67
 go_upto_region 1 with (fail)
 go_cut [16] (fun v16 wc => ∃ (kq : Nat) (x16_1 : Bool), v16 = .bool x16_1 ∧ Aside0 (spec_l01Name.j0 kq a0 x16_1 = some r) ∧ Aside0 (kq ≤ k) ∧ Drawn0 w wc)
 case first =>
  have H := HC2.out
  clear HC2
  by_cases c3 : a0.toList = ([] : List UInt8)
  ·rw [if_pos c3] at H
   have c3b0 : (a0.toList == ([] : List UInt8)) = true := beq_iff_eq.mpr c3
   have c3b1 : (a0.toList != ([] : List UInt8)) = false := bne_eq_false_iff_eq.mpr c3
   clear c3
   (first | rw [c3b0] | (simp only [i64_w, i32_w]; rw [c3b0]) | skip)
   have H' := Aside0.mk H
   clear H
   go_wp2
   go_meet
   case rel => exact ⟨_, (true), (by first | rfl | (simp; done) | (simp [*]; done)), H', ⟨by first | omega | exact Nat.le_refl _⟩, by repeat (first | exact Drawn0.refl _ | apply Drawn0.step)⟩
  ·rw [if_neg c3] at H
   have c3b0 : (a0.toList == ([] : List UInt8)) = false := beq_eq_false_iff_ne.mpr c3
   have c3b1 : (a0.toList != ([] : List UInt8)) = true := bne_iff_ne.mpr c3
   (first | rw [c3b0] | (simp only [i64_w, i32_w]; rw [c3b0]) | skip)
   by_cases c4 : (a0.size : Int) > 10
   ·rw [if_pos c4] at H
    have c4b0 : decide (10 < (a0.size : Int)) = true := decide_eq_true c4
    have c4b1 : decide (10 < a0.size) = true := decide_eq_true (by omega)
    clear c4
    have H' := Aside0.mk H
    clear H
    go_wp2
    go_meet
    case rel => exact ⟨_, (true), (by first | rfl | (simp; done) | (simp [*]; done)), H', ⟨by first | omega | exact Nat.le_refl _⟩, by repeat (first | exact Drawn0.refl _ | apply Drawn0.step)⟩
   ·rw [if_neg c4] at H
    have c4b0 : decide (10 < (a0.size : Int)) = false := decide_eq_false c4
    have c4b1 : decide (10 < a0.size) = false := decide_eq_false (by omega)
    clear c4
    by_cases c5 : 0 < (a0.size : Int)
    ·rw [if_pos c5] at H
     have c5b0 : decide (0 < (a0.size : Int)) = true := decide_eq_true c5
     have c5b1 : decide (0 < a0.size) = true := decide_eq_true (by omega)
     clear c5
     replace H := Option.bind_eq_some_iff.mp H
     obtain ⟨t170, A70, H⟩ := H
     replace H : (spec_l01Name.j0 k a0 (!t170)) = some r := H
     have A7 := Aside0.mk A70
     clear A70
     have H' := Aside0.mk H
     clear H
     have p6 : 0 ≤ (0 : Int) := (by omega)
     have q6 : 0 < a0.size := (by have : (0 : Int) < (a0.size : Int) := da; omega)
     have hx6 : ∀ h : 0 < a0.size, ((a0[0]'h).toNat : Int) = bt a0 0 := bt_at a0 0
     clear p6
     have qi6 : (0 < (a0.size : Int)) = True := eq_true (da)
     replace q6 := eq_true q6
     go_wp2_with (first | (go_at_call 88; (with_reducible refine (spec_l01Small.calls (bt a0 0) t170 _ A7.out).mono ?_); rintro e w' ⟨rfl, ⟨nd, rfl⟩⟩))
     go_meet
     case rel => exact ⟨_, (!t170), (by first | rfl | (simp; done) | (simp [*]; done)), H', ⟨by first | omega | exact Nat.le_refl _⟩, by repeat (first | exact Drawn0.refl _ | apply Drawn0.step)⟩
    ·rw [if_neg c5] at H
     exact absurd H (by simp)
 case rest =>
  clear HC2
  try clear p2
  try clear c3
  try clear c3b0
  try clear c3b1
  try clear c4
  try clear c4b0
  try clear c4b1
  try clear c5
  try clear c5b0
  try clear c5b1
  try clear c6
  try clear p6
  try clear q6
  try clear hx6
  try clear qi6
  try clear p6
  try clear q6
  obtain ⟨kq, x16_1, rfl, HA, HJ1, ⟨mc1, rfl⟩⟩ := hcut
  cases kq with
  | zero => exact absurd HA.out (by simp [spec_l01Name.j0])
  | succ kj1 =>
   have H := HA.out
   clear HA
   simp only [spec_l01Name.j0] at H
   by_cases c8 : x16_1 = true
   ·subst c8
    have H1 : (some false) = some r := by rw [if_pos rfl] at H; exact H
    clear H
    have H := H1
    clear H1
    obtain rfl := Option.some.inj H
    go_wp2
    go_ret
    exact ⟨by first | rfl | (simp; done) | (simp [*]; done), by repeat (first | exact Drawn0.refl _ | apply Drawn0.step)⟩
   ·replace c8 := Bool.eq_false_iff.mpr c8
    subst c8
    have H1 : (spec_l01Name.l0 kj1 a0 0) = some r := by rw [if_neg (show ¬ (false = true) by decide)] at H; exact H
    clear H
    have H := H1
    clear H1
    have H' := Aside0.mk H
    clear H
    go_wp2
    go_loopg [3] kj1 (fun kq v3 w' => ∃ (x3_2 : Int), v3 = .int .i64 x3_2 ∧ Aside0 (spec_l01Name.l0 kq a0 x3_2 = some r) ∧ Aside0 (kq ≤ kj1) ∧ Drawn0 w w')
    case atStart => exact ⟨(0), (by first | rfl | (simp; done) | (simp [*]; done)), H', ⟨Nat.le_refl _⟩, by repeat (first | exact Drawn0.refl _ | apply Drawn0.step)⟩
    case round =>
     clear H'
     try clear c1
     try clear p2
     try clear c3
     try clear c3b0
     try clear c3b1
     try clear c4
     try clear c4b0
     try clear c4b1
     try clear c5
     try clear c5b0
     try clear c5b1
     try clear c6
     try clear p6
     try clear q6
     try clear hx6
     try clear qi6
     try clear c8
     try clear p2
     try clear p6
     try clear q6
     obtain ⟨x3_2, rfl, HA, HK2, ⟨m2, rfl⟩⟩ := hrel
     cases gk with
     | zero => exact absurd HA.out (by simp [spec_l01Name.l0])
     | succ k2 =>
      have H := HA.out
      clear HA
      simp only [spec_l01Name.l0] at H
      by_cases c9 : x3_2 < (a0.size : Int)
      ·rw [if_pos c9] at H
       have c9b0 : decide (x3_2 < (a0.size : Int)) = true := decide_eq_true c9
       clear c9
       by_cases c10 : 0 ≤ x3_2
       ·rw [if_pos c10] at H
        have c10b0 : decide (0 ≤ x3_2) = true := decide_eq_true c10
        clear c10
        replace H := Option.bind_eq_some_iff.mp H
        obtain ⟨t171, A120, H⟩ := H
        replace H : (if t171 = true then (spec_l01Name.l0 k2 a0 (wrap64 (x3_2 + 1))) else ((spec_l01Digit.f (bt a0 x3_2)).bind fun t172 => (if t172 = true then (spec_l01Name.l0 k2 a0 (wrap64 (x3_2 + 1))) else (some false)))) = some r := H
        have A12 := Aside0.mk A120
        clear A120
        by_cases c13 : t171 = true
        ·subst c13
         have H1 : (spec_l01Name.l0 k2 a0 (wrap64 (x3_2 + 1))) = some r := by rw [if_pos rfl] at H; exact H
         clear H
         have H := H1
         clear H1
         have H' := Aside0.mk H
         clear H
         have p11 : 0 ≤ (x3_2 : Int) := da
         have q11 : x3_2 < (a0.size : Int) := da
         have hx11 := bt_at a0 x3_2
         replace p11 := eq_true p11
         replace q11 := eq_true q11
         go_wp2_with (first | ((with_reducible refine gate_callee (f := 88) rfl ?_); refine goesL_ (some 26) rfl rfl Try.func88 (by kernel_rfl) rfl #[.int .u8 (bt a0 x3_2)] rfl (by (try simp only [List.map_toArray, List.map_cons, List.map_nil]); first | done | rfl | (simp only [List.length_drop, List.length_take]; rfl)) ?_; (with_reducible refine (spec_l01Small.calls (bt a0 x3_2) true _ A12.out).mono ?_); rintro e w' ⟨rfl, ⟨nd, rfl⟩⟩; refine ⟨_, rfl, ?_⟩))
         go_roundg k2
         case measure => have := HJ1.out; have := HK2.out; omega
         case rel => exact ⟨(wrap64 (x3_2 + 1)), (by first | rfl | (simp; done) | (simp [*]; done)), H', ⟨by have := HJ1.out; have := HK2.out; omega⟩, by repeat (first | exact Drawn0.refl _ | apply Drawn0.step)⟩
        ·replace c13 := Bool.eq_false_iff.mpr c13
         subst c13
         have H1 : ((spec_l01Digit.f (bt a0 x3_2)).bind fun t172 => (if t172 = true then (spec_l01Name.l0 k2 a0 (wrap64 (x3_2 + 1))) else (some false))) = some r := by rw [if_neg (show ¬ (false = true) by decide)] at H; exact H
         clear H
         have H := H1
         clear H1
         replace H := Option.bind_eq_some_iff.mp H
         obtain ⟨t172, A150, H⟩ := H
         replace H : (if t172 = true then (spec_l01Name.l0 k2 a0 (wrap64 (x3_2 + 1))) else (some false)) = some r := H
         have A15 := Aside0.mk A150
         clear A150
         by_cases c16 : t172 = true
         ·subst c16
          have H1 : (spec_l01Name.l0 k2 a0 (wrap64 (x3_2 + 1))) = some r := by rw [if_pos rfl] at H; exact H
          clear H
          have H := H1
          clear H1
          have H' := Aside0.mk H
          clear H
          have p11 : 0 ≤ (x3_2 : Int) := da
          have q11 : x3_2 < (a0.size : Int) := da
          have hx11 := bt_at a0 x3_2
          replace p11 := eq_true p11
          replace q11 := eq_true q11
          go_wp2_with (first | ((with_reducible refine gate_callee (f := 88) rfl ?_); refine goesL_ (some 26) rfl rfl Try.func88 (by kernel_rfl) rfl #[.int .u8 (bt a0 x3_2)] rfl (by (try simp only [List.map_toArray, List.map_cons, List.map_nil]); first | done | rfl | (simp only [List.length_drop, List.length_take]; rfl)) ?_; (with_reducible refine (spec_l01Small.calls (bt a0 x3_2) false _ A12.out).mono ?_); rintro e w' ⟨rfl, ⟨nd, rfl⟩⟩; refine ⟨_, rfl, ?_⟩; have p14 : 0 ≤ (x3_2 : Int) := da; have q14 : x3_2 < (a0.size : Int) := da; have hx14 := bt_at a0 x3_2; replace p14 := eq_true p14; replace q14 := eq_true q14) | (go_at_call 89; (with_reducible refine (spec_l01Digit.calls (bt a0 x3_2) true _ A15.out).mono ?_); rintro e w' ⟨rfl, ⟨nd, rfl⟩⟩))
          go_roundg k2
          case measure => have := HJ1.out; have := HK2.out; omega
          case rel => exact ⟨(wrap64 (x3_2 + 1)), (by first | rfl | (simp; done) | (simp [*]; done)), H', ⟨by have := HJ1.out; have := HK2.out; omega⟩, by repeat (first | exact Drawn0.refl _ | apply Drawn0.step)⟩
         ·replace c16 := Bool.eq_false_iff.mpr c16
          subst c16
          have H1 : (some false) = some r := by rw [if_neg (show ¬ (false = true) by decide)] at H; exact H
          clear H
          have H := H1
          clear H1
          obtain rfl := Option.some.inj H
          have p11 : 0 ≤ (x3_2 : Int) := da
          have q11 : x3_2 < (a0.size : Int) := da
          have hx11 := bt_at a0 x3_2
          replace p11 := eq_true p11
          replace q11 := eq_true q11
          go_wp2_with (first | ((with_reducible refine gate_callee (f := 88) rfl ?_); refine goesL_ (some 26) rfl rfl Try.func88 (by kernel_rfl) rfl #[.int .u8 (bt a0 x3_2)] rfl (by (try simp only [List.map_toArray, List.map_cons, List.map_nil]); first | done | rfl | (simp only [List.length_drop, List.length_take]; rfl)) ?_; (with_reducible refine (spec_l01Small.calls (bt a0 x3_2) false _ A12.out).mono ?_); rintro e w' ⟨rfl, ⟨nd, rfl⟩⟩; refine ⟨_, rfl, ?_⟩; have p14 : 0 ≤ (x3_2 : Int) := da; have q14 : x3_2 < (a0.size : Int) := da; have hx14 := bt_at a0 x3_2; replace p14 := eq_true p14; replace q14 := eq_true q14) | (go_at_call 89; (with_reducible refine (spec_l01Digit.calls (bt a0 x3_2) false _ A15.out).mono ?_); rintro e w' ⟨rfl, ⟨nd, rfl⟩⟩))
          go_ret
          exact ⟨by first | rfl | (simp; done) | (simp [*]; done), by repeat (first | exact Drawn0.refl _ | apply Drawn0.step)⟩
       ·rw [if_neg c10] at H
        exact absurd H (by simp)
      ·rw [if_neg c9] at H
       have c9b0 : decide (x3_2 < (a0.size : Int)) = false := decide_eq_false c9
       clear c9
       obtain rfl := Option.some.inj H
       go_wp2
       go_ret
       exact ⟨by first | rfl | (simp; done) | (simp [*]; done), by repeat (first | exact Drawn0.refl _ | apply Drawn0.step)⟩
def spec_l05Ring.l0 : Nat → List Int → List (S48) → Int → Int → Int → List (S48) → List (S67) → Option ((List (S48)) × Bool × Int × Int)
 | 0, _, _, _, _, _, _, _ => none
 | k + 1, x1, x6, x7, x1000, x1001, x1002, x1003 => if x7 < (x1.length : Int) then (if 0 ≤ x7 then ((spec_l00In.f (rd x1 x7) 0 (wrap64 ((x1002.length : Int) - 1))).bind fun t177 => (if t177 = true then (if 0 ≤ (rd x1 x7) then (if (rd x1 x7) < (x1002.length : Int) then (if x6.length < 8796093022208 then (spec_l05Ring.l0 k x1 (x6 ++ [(⟨(rd_T48 x1002 (rd x1 x7)).f0, (rd_T48 x1002 (rd x1 x7)).f1⟩ : S48)]) (wrap64 (x7 + 1)) x1000 x1001 x1002 x1003) else (none)) else (none)) else (none)) else (some (([] : List (S48)), false, x1000, x1001)))) else (none)) else (some (x6, true, x1000, x1001))
def spec_l05Ring.f (k : Nat) (s0_0 : Int) (s0_1 : Int) (s0_2 : List (S48)) (s0_3 : List (S67)) (l1 : List Int) : Option ((List (S48)) × Bool × Int × Int) := spec_l05Ring.l0 k l1 (([] : List (S48))) 0 s0_0 s0_1 s0_2 s0_3
theorem spec_l05Ring.mono_l : ∀ k, (∀ y0 y1 y2 y3 y4 y5 y6, LeO (spec_l05Ring.l0 k y0 y1 y2 y3 y4 y5 y6) (spec_l05Ring.l0 (k + 1) y0 y1 y2 y3 y4 y5 y6))
 | 0 => fun _ _ _ _ _ _ _ r h => by simp [spec_l05Ring.l0] at h
 | k + 1 => by
  have ih0 := spec_l05Ring.mono_l k
  ·intro y0 y1 y2 y3 y4 y5 y6
   unfold spec_l05Ring.l0
   repeat' first
   | (with_reducible exact ih0 _ _ _ _ _ _ _)
   | (with_reducible exact LeO.refl _)
   | (with_reducible exact LeO.none _)
   | (with_reducible refine LeO.ite ?_ ?_)
   | (with_reducible refine LeO.bind ?_ (fun _ => ?_))
   | exact ih0 _ _ _ _ _ _ _
   | exact LeO.none _
   | refine LeO.ite ?_ ?_
   | refine LeO.bind ?_ (fun _ => ?_)
theorem spec_l05Ring.mono : ∀ a0 a1 a2 a3 a4 k, LeO (spec_l05Ring.f k a0 a1 a2 a3 a4) (spec_l05Ring.f (k + 1) a0 a1 a2 a3 a4) := by
 intro a0 a1 a2 a3 a4 k
 have ih0 := spec_l05Ring.mono_l k
 unfold spec_l05Ring.f
 repeat' first
   | (with_reducible exact ih0 _ _ _ _ _ _ _)
   | (with_reducible exact LeO.refl _)
   | (with_reducible exact LeO.none _)
   | (with_reducible refine LeO.ite ?_ ?_)
   | (with_reducible refine LeO.bind ?_ (fun _ => ?_))
   | exact ih0 _ _ _ _ _ _ _
   | exact LeO.none _
   | refine LeO.ite ?_ ?_
   | refine LeO.bind ?_ (fun _ => ?_)
def spec_l05Ring.T7 : Bool × List (List Nat × List Nat) := (true, [([], []), ([], []), ([1], [1]), ([2], [2]), ([3], [3]), ([], []), ([], []), ([5, 6], [5, 6]), ([7], [7]), ([4, 8], [4, 8]), ([9], [9]), ([10], [10]), ([0, 11], [0, 11]), ([12, 12, 0, 1, 2, 3, 4, 5, 6, 7, 8, 9, 10, 11, 12], [0, 12])])
def spec_l05Ring.B7 : List Nat := [0, 0, 2, 6, 14, 0, 0, 96, 224, 510, 1022, 2046, 4095, 8191]
theorem spec_l05Ring.tab7 : rtab .any (opsOf Try.f68 7) = spec_l05Ring.T7 := by kernel_rfl
theorem spec_l05Ring.bits7 : waitsOk spec_l05Ring.T7.2 spec_l05Ring.B7 = true := by kernel_rfl
set_option maxHeartbeats 8000000 in
set_option maxRecDepth 100000 in
theorem spec_l05Ring.calls (k : Nat) (g : Nat) (s0_0 : Int) (s0_1 : Int) (s0_2 : List (S48)) (s0_3 : List (S67)) (A1 : Option Addr) (c1 : Nat) (l1 : List Int) (r1 : List (S48)) (r2 : Bool) (r3 : Int) (r4 : Int) (w0 w : World) (hI : IsS31 w0 w g s0_0 s0_1 s0_2 s0_3) (hB : Below w0.heap.size w0 w) (hr1 : Kd.C (Kd.int .i64) w A1 l1.length l1) (hc1 : l1.length ≤ c1) (hf1 : ∀ ad, A1 = some ad → 0 < l1.length → ad.block ≠ g) (h : spec_l05Ring.f k s0_0 s0_1 s0_2 s0_3 l1 = some (r1, r2, r3, r4)) :
  Calls Try.prog 68 #[.pointer (some ⟨g, 0, none⟩), .slice A1 l1.length c1] w fun e w' => ∃ v0_ : Value, e = .returned (.tuple #[v0_, .bool r2]) ∧ Kd.R k48 48 w' w.heap.size (fun _ => True) v0_ r1 ∧ IsS31 w0 w' g r3 r4 s0_2 s0_3 ∧ Below w0.heap.size w0 w' ∧ KeepBut w w' g none := by
 have hu48 := Try.underlying48
 have HR1 := Aside0.mk hr1
 have HC1 := Aside0.mk hc1
 clear hr1 hc1
 have HI0 := Aside0.mk hI
 have HK := Aside0.mk (KeepBut.refl w g none)
 have HL := Aside0.mk hB.size
 clear hI
 have HW0 := Aside0.mk hB.size
 have HB := Aside0.mk hB
 clear hB
 have H : (spec_l05Ring.l0 k l1 (([] : List (S48))) 0 s0_0 s0_1 s0_2 s0_3) = some (r1, r2, r3, r4) := h
 clear h
 have HB0 := HB
 clear HB
 have HB := Aside0.mk (Below.refl w.heap.size w)
 obtain ⟨A2, c2, A3, c3, hblk, hge, hr2, hr3⟩ := HI0.out
 have q2 : w.cell? ⟨g, 2, none⟩ = some (.slice A2 s0_2.length c2) := cellS31_2 hblk
 have pts : ∀ i : Int, 0 ≤ i → i < (s0_2.length : Int) → ∃ ad, A2 = some ad ∧ w.cell? (ad.add (i.toNat * 2)) = some (.int .i64 (rd_T48 s0_2 i).f0) ∧ w.cell? ⟨(ad.add (i.toNat * 2)).block, (ad.add (i.toNat * 2)).off + 1, none⟩ = some (.int .i64 (rd_T48 s0_2 i).f1) := by
  intro i h0 h1
  obtain ⟨ad, e, x0, x1⟩ := at_T48 hr2 i h0 h1
  exact ⟨ad, e, (HB0.out.cell (bL w0 _ x0)).trans x0, (HB0.out.cell (bL w0 _ x1)).trans x1⟩
 have Hpts_ := Aside0.mk pts
 have Q2 := Aside0.mk q2
 clear hblk hge hr2 hr3 pts q2 hf1
 obtain ⟨yn, hyn⟩ : ∃ y_ : List (S48), y_ = (([] : List (S48))) := ⟨_, rfl⟩
 replace H : (spec_l05Ring.l0 k l1 yn 0 s0_0 s0_1 s0_2 s0_3) = some (r1, r2, r3, r4) := by rw [hyn]; exact H
 have Nyn := Aside0.mk hyn
 clear hyn
 have H' := Aside0.mk H
 clear H
 go_enter Try.func68, Try.ntmps68
 go_wp2_with (first | ((with_reducible refine gate_dst (N := 8) rfl ?_); refine Kd.R_lit k48 _ 48 ?hg (N := 8) ?hd (xs := ([] : List (S48))) (inner := []) (ok := fun _ => True) (okp := fun _ => True) ?hr ?hp (fun _ hk => hk) trivial (Below.refl _ _) (Nat.le_refl _) (by simp) ?_; (case hd => rfl); (case hg => rfl); (case hr => first | (go_simp; done) | (go_simp; rfl)); (case hp => exact (Reps.none _ _)); intro v266 w3 ho4 hb hg_ hnew_; clear hg_ hnew_; (first | rw [← Nyn.out] at ho4 | (simp only [Int.reduceToNat] at ho4; rw [← Nyn.out] at ho4)); have n0_ := Aside0.mk (Kd.R_lower ho4 (below_size ib)); have n1_ := sb hb; clear HB; have HO267 := n0_; have HB := n1_; clear n0_ n1_; clear hb ho4))
 go_loopg [6, 7] k (fun kq v6 v7 w' => ∃ (x6 : List (S48)) (x7 : Int), v7 = .int .i64 x7 ∧ Aside0 (spec_l05Ring.l0 kq l1 x6 x7 s0_0 s0_1 s0_2 s0_3 = some (r1, r2, r3, r4)) ∧ Aside0 (kq ≤ k) ∧ Aside0 (Kd.R k48 48 w' w.heap.size (fun _ => True) v6 x6) ∧ Aside0 (Below w.heap.size w w'))
 case atStart => exact ⟨(yn), (0), (by first | rfl | (simp; done) | (simp [*]; done)), H', ⟨Nat.le_refl _⟩, ⟨by (with_reducible repeat (first | apply Kd.R_alloc | apply Kd.R_drewN | apply Kd.R_drew)); exact HO267.out⟩, ⟨by repeat (first | (with_reducible first | exact HB.out | apply below_alloc | apply pw_below_drewN | apply below_drew1) | exact HB.out)⟩⟩
 case round =>
  clear H'
  obtain ⟨x6, x7, rfl, HA, HK1, HO_6, HB⟩ := hrel
  cases gk with
  | zero => exact absurd HA.out (by simp [spec_l05Ring.l0])
  | succ k1 =>
   have H := HA.out
   clear HA
   simp only [spec_l05Ring.l0] at H
   have q2 : wr.cell? ⟨g, 2, none⟩ = some (.slice A2 s0_2.length c2) := (HB.out.cell (bL w _ Q2.out)).trans Q2.out
   by_cases c5 : x7 < (l1.length : Int)
   ·rw [if_pos c5] at H
    have c5b0 : decide (x7 < (l1.length : Int)) = true := decide_eq_true c5
    by_cases c6 : 0 ≤ x7
    ·rw [if_pos c6] at H
     have c6b0 : decide (0 ≤ x7) = true := decide_eq_true c6
     obtain ⟨ad1, e1, hx_⟩ := Kd.at_int HR1.out x7 c6 c5
     cases e1
     have hx0 := (HB.out.cell (bL w _ hx_)).trans hx_
     replace H := Option.bind_eq_some_iff.mp H
     obtain ⟨t1, A10, H⟩ := H
     have A1' := Aside0.mk A10
     clear A10
     cases t1 with
     | false =>
      replace H := (show (some (([] : List (S48)), false, s0_0, s0_1)) = some (r1, r2, r3, r4) from by first | exact H | simpa using H)
      simp only [Option.some.injEq, Prod.mk.injEq] at H
      obtain ⟨rfl, rfl, rfl, rfl⟩ := H
      go_wp2
      go_quiet (with_reducible exact Calls.quiet_of ((spec_l00In.calls _ _ _ _ _ A1'.out).mono fun e w' h => ⟨h.1, h.2.out⟩))
      go_wp2
      go_ret2
      exact ⟨_, by first | rfl | (simp; done) | (simp [*]; done), Kd.R_nil _ _ _ _ _, HI0.out.below ib, below_then HB0.out HL.out ib, KeepBut.of_below ib g none⟩
     | true =>
      replace H := (show ((if 0 ≤ (rd l1 x7) then (if (rd l1 x7) < (s0_2.length : Int) then (if x6.length < 8796093022208 then (spec_l05Ring.l0 k1 l1 (x6 ++ [(⟨(rd_T48 s0_2 (rd l1 x7)).f0, (rd_T48 s0_2 (rd l1 x7)).f1⟩ : S48)]) (wrap64 (x7 + 1)) s0_0 s0_1 s0_2 s0_3) else (none)) else (none)) else (none))) = some (r1, r2, r3, r4) from by first | exact H | simpa using H)
      by_cases c10 : 0 ≤ (rd l1 x7)
      ·rw [if_pos c10] at H
       have c10b0 : decide (0 ≤ (rd l1 x7)) = true := decide_eq_true c10
       by_cases c11 : (rd l1 x7) < (s0_2.length : Int)
       ·rw [if_pos c11] at H
        have c11b0 : decide ((rd l1 x7) < (s0_2.length : Int)) = true := decide_eq_true c11
        by_cases c12 : x6.length < 8796093022208
        ·rw [if_pos c12] at H
         have LMc12 := Aside0.mk c12
         clear c12
         obtain ⟨y271, hy271⟩ : ∃ y_ : List (S48), y_ = (x6 ++ [(⟨(rd_T48 s0_2 (rd l1 x7)).f0, (rd_T48 s0_2 (rd l1 x7)).f1⟩ : S48)]) := ⟨_, rfl⟩
         rw [← hy271] at H
         have Ny271 := Aside0.mk hy271
         clear hy271
         have H' := Aside0.mk H
         clear H
         obtain ⟨ad2, e2, z0_, z1_⟩ := Hpts_.out (rd l1 x7) c10 c11
         cases e2
         have z0 := (HB.out.cell (bL w _ z0_)).trans z0_
         have z1 := (HB.out.cell (bL w _ z1_)).trans z1_
         have hq2_ := Q2.out
         go_wp2
         go_quiet (with_reducible exact Calls.quiet_of ((spec_l00In.calls _ _ _ _ _ A1'.out).mono fun e w' h => ⟨h.1, h.2.out⟩))
         try go_wp2
         have n0_ : Aside0 (Kd.R k48 48 (wr.drewN nq) w.heap.size (fun _ => True) u6 x6) := ⟨by (with_reducible repeat (first | apply Kd.R_alloc | apply Kd.R_drewN | apply Kd.R_drew)); exact HO_6.out⟩
         have n1_ : Aside0 (Below w.heap.size w (wr.drewN nq)) := ⟨by repeat (first | (with_reducible first | exact HB.out | apply below_alloc | apply pw_below_drewN | apply below_drew1) | exact HB.out)⟩
         clear HO_6 HB q2 hx0 z0 z1
         generalize wr.drewN nq = ws at n0_ n1_ ⊢
         have HO_6 : Aside0 (Kd.R k48 48 ws.drew w.heap.size (fun _ => True) u6 x6) := ⟨Kd.R_drew n0_.out⟩
         have HB : Aside0 (Below w.heap.size w ws.drew) := ⟨below_drew1 n1_.out⟩
         clear n0_ n1_
         have Hq_ := Aside0.mk hq2_
         have Hx_ := Aside0.mk hx_
         have Hz0_ := Aside0.mk z0_
         have Hz1_ := Aside0.mk z1_
         clear hq2_ hx_ z0_ z1_
         replace c5 := eq_true c5
         replace c6 := eq_true c6
         replace c10 := eq_true c10
         replace c11 := eq_true c11
         refine start_ (n := 14) (S := fun w' => w'.cell? ⟨g, 2, none⟩ = some (.slice (some ad2) s0_2.length c2) ∧ w'.cell? (ad1.add x7.toNat) = some (.int .i64 (rd l1 x7)) ∧ w'.cell? (ad2.add ((rd l1 x7).toNat * 2)) = some (.int .i64 (rd_T48 s0_2 (rd l1 x7)).f0) ∧ w'.cell? ⟨(ad2.add ((rd l1 x7).toNat * 2)).block, (ad2.add ((rd l1 x7).toNat * 2)).off + 1, none⟩ = some (.int .i64 (rd_T48 s0_2 (rd l1 x7)).f1)) (ds := []) #[fF,fF,fF,fF,fF,fF,fF,fF,fF,fF,fF,fF,fF,fF] (by kernel_rfl) rfl rfl ⟨((HB.out.cell (bL w _ Hq_.out)).trans Hq_.out), ((HB.out.cell (bL w _ Hx_.out)).trans Hx_.out), ((HB.out.cell (bL w _ Hz0_.out)).trans Hz0_.out), ((HB.out.cell (bL w _ Hz1_.out)).trans Hz1_.out)⟩ (fun hHeld => ?_); refine with_tabW spec_l05Ring.tab7 spec_l05Ring.bits7 (fun HT_ HW_ => ?_)
         generalize ws.drew = wt at HO_6 HB hHeld ⊢
         have q2 : wt.cell? ⟨g, 2, none⟩ = _ := (HB.out.cell (bL w _ Hq_.out)).trans Hq_.out
         have hx0 := (HB.out.cell (bL w _ Hx_.out)).trans Hx_.out
         have z0 := (HB.out.cell (bL w _ Hz0_.out)).trans Hz0_.out
         have z1 := (HB.out.cell (bL w _ Hz1_.out)).trans Hz1_.out
         refine pu 0 27 HT_ ?_
         refine pu 1 28 HT_ ?_
         refine pu 2 29 HT_ ?_
         refine pu 3 30 HT_ ?_
         refine pu 5 32 HT_ ?_
         refine pu 6 33 HT_ ?_
         refine pu 7 34 HT_ ?_
         refine tk 4 31 HT_ HW_ hHeld ?_
         refine tk 8 35 HT_ HW_ hHeld ?_
         refine pu 9 36 HT_ ?_
         refine tk 10 37 HT_ HW_ hHeld ?_
         refine on 11 38 HT_ (fun K hK => ?_)
         refine value_ (w1 := ?_) (v := ?_) (by rfl) rfl ?_ ?_
         rotate_left 2
         ·go_simp
          constructor
          ·rfl
          ·rfl
         refine hK.out _ _ ⟨(World.cell?_alloc_lt _ _ _ (bL _ _ (((HB.out.cell (bL w _ Hq_.out)).trans Hq_.out)))).trans (((HB.out.cell (bL w _ Hq_.out)).trans Hq_.out)), (World.cell?_alloc_lt _ _ _ (bL _ _ (((HB.out.cell (bL w _ Hx_.out)).trans Hx_.out)))).trans (((HB.out.cell (bL w _ Hx_.out)).trans Hx_.out)), (World.cell?_alloc_lt _ _ _ (bL _ _ (((HB.out.cell (bL w _ Hz0_.out)).trans Hz0_.out)))).trans (((HB.out.cell (bL w _ Hz0_.out)).trans Hz0_.out)), (World.cell?_alloc_lt _ _ _ (bL _ _ (((HB.out.cell (bL w _ Hz1_.out)).trans Hz1_.out)))).trans (((HB.out.cell (bL w _ Hz1_.out)).trans Hz1_.out))⟩ (fun hHeld => ?_)
         clear hK K
         refine norm_ (a' := ?_) ?_ ?_
         rotate_left
         ·show Act.put _ (some 38) _ = _
          simp only [Act.put, List.setIfInBounds_toArray, List.set_cons_zero, List.set_cons_succ, i64_w, i32_w]
          rfl
         refine on 12 39 HT_ (fun K hK => ?_)
         refine Kd.R_append_step k48 (w0 := w) w.heap.size (by rfl) (.tmp 27) (.tmp 38) 28 48 (.agg #[(.int .i64 0), (.int .i64 0)]) 16 rfl Try.underlying28 info48 rfl (by decide) (by omega) u6 x6 (⟨(rd_T48 s0_2 (rd l1 x7)).f0, (rd_T48 s0_2 (rd l1 x7)).f1⟩ : S48) [.int .i64 ((rd_T48 s0_2 (rd l1 x7)).f0), .int .i64 ((rd_T48 s0_2 (rd l1 x7)).f1)] (fun _ => True) (fun _ => False) rfl rfl ?aP (fun _ hk => hk.elim) ?aF ?aO ?aB ?aS ?aL ?_
         (case aP => exact k48_mkM _ _ _ (⟨(rd_T48 s0_2 (rd l1 x7)).f0, (rd_T48 s0_2 (rd l1 x7)).f1⟩ : S48))
         (case aB => exact ib)
         (case aF => exact (fun _ _ => trivial))
         (case aO => exact (by (with_reducible repeat (first | apply Kd.R_alloc | apply Kd.R_drewN | apply Kd.R_drew)); exact HO_6.out))
         (case aS => exact (below_size ib))
         (case aL => have := LMc12.out; omega)
         intro v272 w13 ho hb hg hat
         rw [← Ny271.out] at ho
         clear HB HO_6 q2 hx0 z0 z1
         have HB := Aside0.mk hb
         have HO273 := Aside0.mk ho
         clear ho hb hg hat
         refine hK.out _ _ ⟨((HB.out.cell (bL w _ Hq_.out)).trans Hq_.out), ((HB.out.cell (bL w _ Hx_.out)).trans Hx_.out), ((HB.out.cell (bL w _ Hz0_.out)).trans Hz0_.out), ((HB.out.cell (bL w _ Hz1_.out)).trans Hz1_.out)⟩ (fun hHeld => ?_)
         clear hK K
         refine norm_ (a' := ?_) ?_ ?_
         rotate_left
         ·show Act.put _ (some 39) _ = _
          simp only [Act.put, List.setIfInBounds_toArray, List.set_cons_zero, List.set_cons_succ, i64_w, i32_w]
          rfl
         refine pu 13 6 HT_ ?_
         refine done_ (done_of HT_.out (by kernel_rfl)) ?_
         try go_wp2
         go_roundg k1
         case measure => have := HK1.out; omega
         case rel => exact ⟨(y271), (wrap64 (x7 + 1)), (by first | rfl | (simp; done) | (simp [*]; done)), H', ⟨by have := HK1.out; omega⟩, ⟨by (with_reducible repeat (first | apply Kd.R_alloc | apply Kd.R_drewN | apply Kd.R_drew)); exact HO273.out⟩, ⟨ib⟩⟩
        ·rw [if_neg c12] at H
         exact absurd H (by simp)
       ·rw [if_neg c11] at H
        exact absurd H (by simp)
      ·rw [if_neg c10] at H
       exact absurd H (by simp)
    ·rw [if_neg c6] at H
     exact absurd H (by simp)
   ·rw [if_neg c5] at H
    have c5b0 : decide (x7 < (l1.length : Int)) = false := decide_eq_false c5
    simp only [Option.some.injEq, Prod.mk.injEq] at H
    obtain ⟨rfl, rfl, rfl, rfl⟩ := H
    go_wp2
    go_ret2
    exact ⟨_, by first | rfl | (simp; done) | (simp [*]; done), by (with_reducible repeat (first | apply Kd.R_alloc | apply Kd.R_drewN | apply Kd.R_drew)); exact HO_6.out, HI0.out.below ib, below_then HB0.out HL.out ib, KeepBut.of_below ib g none⟩
def spec_l02Ok.f (a0_0 : Int) (a0_1 : Int) : Option (Bool) := (spec_l00In.f a0_0 0 20000).bind fun t184 => (if t184 = true then ((spec_l00In.f a0_1 0 20000).bind fun t185 => (some t185)) else (some false))
set_option maxHeartbeats 8000000 in
set_option maxRecDepth 100000 in
theorem spec_l02Ok.calls (a0_0 : Int) (a0_1 : Int) (r : Bool) (w : World) (h : spec_l02Ok.f a0_0 a0_1 = some r) :
  Calls Try.prog 55 #[.agg #[.int .i64 a0_0, .int .i64 a0_1]] w fun e w' => e = .returned (.bool r) ∧ Below w.heap.size w w' := by
 have hu48 := Try.underlying48
 have HB := Aside0.mk (Below.refl w.heap.size w)
 have H : ((spec_l00In.f a0_0 0 20000).bind fun t184 => (if t184 = true then ((spec_l00In.f a0_1 0 20000).bind fun t185 => (some t185)) else (some false))) = some r := h
 clear h
 replace H := Option.bind_eq_some_iff.mp H
 obtain ⟨t184, A20, H⟩ := H
 replace H : (if t184 = true then ((spec_l00In.f a0_1 0 20000).bind fun t185 => (some t185)) else (some false)) = some r := H
 have A2 := Aside0.mk A20
 clear A20
 by_cases c3 : t184 = true
 ·subst c3
  have H1 : ((spec_l00In.f a0_1 0 20000).bind fun t185 => (some t185)) = some r := by rw [if_pos rfl] at H; exact H
  clear H
  have H := H1
  clear H1
  replace H := Option.bind_eq_some_iff.mp H
  obtain ⟨t185, A40, H⟩ := H
  replace H : (some t185) = some r := H
  have A4 := Aside0.mk A40
  clear A40
  obtain rfl := Option.some.inj H
  go_enter Try.func55, Try.ntmps55
  go_wp2_with (first | ((with_reducible refine gate_dst (N := 1) rfl ?_); refine bx (cs := #[.int .i64 a0_0, .int .i64 a0_1]) (t := 48) ?_; intro gb183 hg w5 hbox hb; have n0_ := sb hb; have n1_ := Aside0.mk (hbox); have n2_ := zb hg; have n3_ := zb hg; clear HB; have HB := n0_; have BK183 := n1_; have GW183 := n2_; have GE183 := n3_; clear n0_ n1_ n2_ n3_; clear hb hbox hg; have hcz6_0 := ck BK183 0; have hcz6_1 := ck BK183 1; have hfz6_0 := blk_frozen BK183.out 0; have hfz6_1 := blk_frozen BK183.out 1) | ((with_reducible refine gate_callee (f := 61) rfl ?_); refine goesL_ (some 5) rfl rfl Try.func61 (by kernel_rfl) rfl #[.int .i64 a0_0, .int .i64 0, .int .i64 20000] rfl (by (try simp only [List.map_toArray, List.map_cons, List.map_nil]); first | done | rfl | (simp only [List.length_drop, List.length_take]; rfl)) ?_; (with_reducible refine (spec_l00In.calls a0_0 0 20000 true _ A2.out).mono ?_); rintro e w' ⟨rfl, ⟨nd, rfl⟩⟩; refine ⟨_, rfl, ?_⟩) | (go_at_call 61; (with_reducible refine (spec_l00In.calls a0_1 0 20000 t185 _ A4.out).mono ?_); rintro e w' ⟨rfl, ⟨nd, rfl⟩⟩))
  go_ret
  exact ⟨by first | rfl | (simp [errW_none, errW_some] <;> rfl) | (simp [*, errW_none, errW_some] <;> rfl), by repeat (first | (with_reducible first | exact HB.out | apply below_alloc | apply pw_below_drewN | apply below_drew1 | refine below_set ?_ GE183.out) | exact HB.out)⟩
 ·replace c3 := Bool.eq_false_iff.mpr c3
  subst c3
  have H1 : (some false) = some r := by rw [if_neg (show ¬ (false = true) by decide)] at H; exact H
  clear H
  have H := H1
  clear H1
  obtain rfl := Option.some.inj H
  go_enter Try.func55, Try.ntmps55
  go_wp2_with (first | ((with_reducible refine gate_dst (N := 1) rfl ?_); refine bx (cs := #[.int .i64 a0_0, .int .i64 a0_1]) (t := 48) ?_; intro gb183 hg w7 hbox hb; have n0_ := sb hb; have n1_ := Aside0.mk (hbox); have n2_ := zb hg; have n3_ := zb hg; clear HB; have HB := n0_; have BK183 := n1_; have GW183 := n2_; have GE183 := n3_; clear n0_ n1_ n2_ n3_; clear hb hbox hg; have hcz8_0 := ck BK183 0; have hcz8_1 := ck BK183 1; have hfz8_0 := blk_frozen BK183.out 0; have hfz8_1 := blk_frozen BK183.out 1) | ((with_reducible refine gate_callee (f := 61) rfl ?_); refine goesL_ (some 5) rfl rfl Try.func61 (by kernel_rfl) rfl #[.int .i64 a0_0, .int .i64 0, .int .i64 20000] rfl (by (try simp only [List.map_toArray, List.map_cons, List.map_nil]); first | done | rfl | (simp only [List.length_drop, List.length_take]; rfl)) ?_; (with_reducible refine (spec_l00In.calls a0_0 0 20000 false _ A2.out).mono ?_); rintro e w' ⟨rfl, ⟨nd, rfl⟩⟩; refine ⟨_, rfl, ?_⟩))
  go_ret
  exact ⟨by first | rfl | (simp [errW_none, errW_some] <;> rfl) | (simp [*, errW_none, errW_some] <;> rfl), by repeat (first | (with_reducible first | exact HB.out | apply below_alloc | apply pw_below_drewN | apply below_drew1 | refine below_set ?_ GE183.out) | exact HB.out)⟩
def spec_l03Area.l0 : Nat → List (S48) → Int → Int → Option (Int)
 | 0, _, _, _ => none
 | k + 1, x0, x3, x4 => if x4 < (x0.length : Int) then (if (x0.length : Int) = 0 then (none) else (if 0 ≤ (Int.tmod (wrap64 (x4 + 1)) (x0.length : Int)) then (if (Int.tmod (wrap64 (x4 + 1)) (x0.length : Int)) < (x0.length : Int) then (if 0 ≤ x4 then (spec_l03Area.l0 k x0 (wrap64 (x3 + (wrap64 ((wrap64 (((rd_T48 x0 x4).f0) * ((rd_T48 x0 (Int.tmod (wrap64 (x4 + 1)) (x0.length : Int))).f1))) - (wrap64 (((rd_T48 x0 x4).f1) * ((rd_T48 x0 (Int.tmod (wrap64 (x4 + 1)) (x0.length : Int))).f0))))))) (wrap64 (x4 + 1))) else (none)) else (none)) else (none))) else (some x3)
def spec_l03Area.f (k : Nat) (l0 : List (S48)) : Option (Int) := spec_l03Area.l0 k l0 0 0
theorem spec_l03Area.mono_l : ∀ k, (∀ y0 y1 y2, LeO (spec_l03Area.l0 k y0 y1 y2) (spec_l03Area.l0 (k + 1) y0 y1 y2))
 | 0 => fun _ _ _ r h => by simp [spec_l03Area.l0] at h
 | k + 1 => by
  have ih0 := spec_l03Area.mono_l k
  ·intro y0 y1 y2
   unfold spec_l03Area.l0
   repeat' first
   | (with_reducible exact ih0 _ _ _)
   | (with_reducible exact LeO.refl _)
   | (with_reducible exact LeO.none _)
   | (with_reducible refine LeO.ite ?_ ?_)
   | (with_reducible refine LeO.bind ?_ (fun _ => ?_))
   | exact ih0 _ _ _
   | exact LeO.none _
   | refine LeO.ite ?_ ?_
   | refine LeO.bind ?_ (fun _ => ?_)
theorem spec_l03Area.mono : ∀ a0 k, LeO (spec_l03Area.f k a0) (spec_l03Area.f (k + 1) a0) := by
 intro a0 k
 have ih0 := spec_l03Area.mono_l k
 unfold spec_l03Area.f
 repeat' first
   | (with_reducible exact ih0 _ _ _)
   | (with_reducible exact LeO.refl _)
   | (with_reducible exact LeO.none _)
   | (with_reducible refine LeO.ite ?_ ?_)
   | (with_reducible refine LeO.bind ?_ (fun _ => ?_))
   | exact ih0 _ _ _
   | exact LeO.none _
   | refine LeO.ite ?_ ?_
   | refine LeO.bind ?_ (fun _ => ?_)
set_option maxHeartbeats 8000000 in
set_option maxRecDepth 100000 in
theorem spec_l03Area.calls (k : Nat) (A0 : Option Addr) (c0 : Nat) (l0 : List (S48)) (r : Int) (w : World) (hr0 : Kd.C k48 w A0 l0.length l0) (hc0 : l0.length ≤ c0) (h : spec_l03Area.f k l0 = some r) :
  Calls Try.prog 78 #[.slice A0 l0.length c0] w fun e w' => e = .returned (.int .i64 r) ∧ Below w.heap.size w w' := by
 have hu48 := Try.underlying48
 have HR0 := Aside0.mk hr0
 have HC0 := Aside0.mk hc0
 clear hr0 hc0
 have HB := Aside0.mk (Below.refl w.heap.size w)
 have H : (spec_l03Area.l0 k l0 0 0) = some r := h
 clear h
 have H' := Aside0.mk H
 clear H
 go_enter Try.func78, Try.ntmps78
 go_wp2
 repeat (go_quiet (fail); try go_wp2)
 go_loopg [3, 4] k (fun kq v3 v4 w' => ∃ (x3_1 : Int) (x4_1 : Int), v3 = .int .i64 x3_1 ∧ v4 = .int .i64 x4_1 ∧ Aside0 (spec_l03Area.l0 kq l0 x3_1 x4_1 = some r) ∧ Aside0 (kq ≤ k) ∧ Aside0 (Below w.heap.size w w'))
 case atStart => exact ⟨(0), (0), (by first | rfl | (simp; done) | (simp [*]; done)), (by first | rfl | (simp; done) | (simp [*]; done)), H', ⟨Nat.le_refl _⟩, ⟨by repeat (first | (with_reducible first | exact HB.out | apply below_alloc | apply pw_below_drewN | apply below_drew1) | exact HB.out)⟩⟩
 case round =>
  clear H'
  obtain ⟨x3_1, x4_1, rfl, rfl, HA, HK1, HB⟩ := hrel
  cases gk with
  | zero => exact absurd HA.out (by simp [spec_l03Area.l0])
  | succ k1 =>
   have H := HA.out
   clear HA
   simp only [spec_l03Area.l0] at H
   by_cases c2 : x4_1 < (l0.length : Int)
   ·rw [if_pos c2] at H
    have c2b0 : decide (x4_1 < (l0.length : Int)) = true := decide_eq_true c2
    clear c2
    by_cases c3 : (l0.length : Int) = 0
    ·rw [if_pos c3] at H
     exact absurd H (by simp)
    ·rw [if_neg c3] at H
     have c3b0 : ((l0.length : Int) == 0) = false := beq_eq_false_iff_ne.mpr c3
     have c3b1 : ((l0.length : Int) != 0) = true := bne_iff_ne.mpr c3
     have c3b2 : ¬ (l0 = []) := fun h_ => c3 (by rw [h_]; rfl)
     obtain ⟨ji4, hji4⟩ : ∃ j_ : Int, (Int.tmod (wrap64 (x4_1 + 1)) (l0.length : Int)) = j_ := ⟨_, rfl⟩
     replace H : (if 0 ≤ (ji4) then (if (ji4) < (l0.length : Int) then (if 0 ≤ x4_1 then (spec_l03Area.l0 k1 l0 (wrap64 (x3_1 + (wrap64 ((wrap64 (((rd_T48 l0 x4_1).f0) * ((rd_T48 l0 (ji4)).f1))) - (wrap64 (((rd_T48 l0 x4_1).f1) * ((rd_T48 l0 (ji4)).f0))))))) (wrap64 (x4_1 + 1))) else (none)) else (none)) else (none)) = some r := by first | (rw [hji4] at H; exact H) | (simp only [hji4] at H ⊢; exact H)
     by_cases c5 : 0 ≤ (ji4)
     ·rw [if_pos c5] at H
      have c5b0 : decide (0 ≤ (ji4)) = true := decide_eq_true c5
      clear c5
      by_cases c6 : (ji4) < (l0.length : Int)
      ·rw [if_pos c6] at H
       have c6b0 : decide ((ji4) < (l0.length : Int)) = true := decide_eq_true c6
       clear c6
       by_cases c7 : 0 ≤ x4_1
       ·rw [if_pos c7] at H
        have c7b0 : decide (0 ≤ x4_1) = true := decide_eq_true c7
        clear c7
        have H' := Aside0.mk H
        clear H
        have p186 : 0 ≤ ((ji4) : Int) := da
        have q186 : (ji4) < (l0.length : Int) := da
        obtain ⟨ad186, e186, hx186_0, hx186_1⟩ := at_T48 HR0.out (ji4) p186 q186
        cases e186
        replace hx186_0 := (HB.out.cell (bL w _ hx186_0)).trans hx186_0
        replace hx186_1 := (HB.out.cell (bL w _ hx186_1)).trans hx186_1
        replace p186 := eq_true p186
        replace q186 := eq_true q186
        go_wp2_with (first | ((with_reducible refine gate_dst (N := 5) rfl ?_); refine bx (cs := #[.int .i64 0, .int .i64 0]) (t := 48) ?_; intro gb187 hg w8 hbox hb; have n0_ := sb hb; have n1_ := Aside0.mk (hbox); have n2_ := zb hg; have n3_ := zb hg; clear HB; have HB := n0_; have BK187 := n1_; have GW187 := n2_; have GE187 := n3_; clear n0_ n1_ n2_ n3_; clear hb hbox hg; have hcz9_0 := ck BK187 0; have hcz9_1 := ck BK187 1; have hfz9_0 := blk_frozen BK187.out 0; have hfz9_1 := blk_frozen BK187.out 1; have p188 : 0 ≤ (x4_1 : Int) := da; have q188 : x4_1 < (l0.length : Int) := da; obtain ⟨ad188, e188, hx188_0, hx188_1⟩ := at_T48 HR0.out x4_1 p188 q188; obtain rfl : ad186 = ad188 := (by injection e188); have hn188_0 : ad186.block ≠ gb187 := nw hx188_0 GW187; have hn188_1 : ad186.block ≠ gb187 := nw hx188_0 GW187; replace hx188_0 := (HB.out.cell (bL w _ hx188_0)).trans hx188_0; replace hx188_1 := (HB.out.cell (bL w _ hx188_1)).trans hx188_1; replace hx188_0 := cf hn188_0 hx188_0 0 (.int .i64 ((rd_T48 l0 (ji4)).f0)); replace hx188_1 := cf hn188_0 hx188_1 0 (.int .i64 ((rd_T48 l0 (ji4)).f0)); replace hx188_0 := cf hn188_1 hx188_0 1 (.int .i64 ((rd_T48 l0 (ji4)).f1)); replace hx188_1 := cf hn188_1 hx188_1 1 (.int .i64 ((rd_T48 l0 (ji4)).f1)); (try have hy188_0 := fun (n_ : Nat) => (show ((((w8.drewN n_).setCell ⟨gb187, 0, none⟩ (.int .i64 ((rd_T48 l0 (ji4)).f0))).setCell ⟨gb187, 1, none⟩ (.int .i64 ((rd_T48 l0 (ji4)).f1)))).cell? _ = some _ from hx188_0)); (try have hy188_1 := fun (n_ : Nat) => (show ((((w8.drewN n_).setCell ⟨gb187, 0, none⟩ (.int .i64 ((rd_T48 l0 (ji4)).f0))).setCell ⟨gb187, 1, none⟩ (.int .i64 ((rd_T48 l0 (ji4)).f1)))).cell? _ = some _ from hx188_1)); clear hn188_0; clear hn188_1; replace p188 := eq_true p188; replace q188 := eq_true q188; have p189 : 0 ≤ (x4_1 : Int) := da; have q189 : x4_1 < (l0.length : Int) := da; obtain ⟨ad189, e189, hx189_0, hx189_1⟩ := at_T48 HR0.out x4_1 p189 q189; obtain rfl : ad186 = ad189 := (by injection e189); have hn189_0 : ad186.block ≠ gb187 := nw hx189_0 GW187; have hn189_1 : ad186.block ≠ gb187 := nw hx189_0 GW187; replace hx189_0 := (HB.out.cell (bL w _ hx189_0)).trans hx189_0; replace hx189_1 := (HB.out.cell (bL w _ hx189_1)).trans hx189_1; replace hx189_0 := cf hn189_0 hx189_0 0 (.int .i64 ((rd_T48 l0 (ji4)).f0)); replace hx189_1 := cf hn189_0 hx189_1 0 (.int .i64 ((rd_T48 l0 (ji4)).f0)); replace hx189_0 := cf hn189_1 hx189_0 1 (.int .i64 ((rd_T48 l0 (ji4)).f1)); replace hx189_1 := cf hn189_1 hx189_1 1 (.int .i64 ((rd_T48 l0 (ji4)).f1)); (try have hy189_0 := fun (n_ : Nat) => (show ((((w8.drewN n_).setCell ⟨gb187, 0, none⟩ (.int .i64 ((rd_T48 l0 (ji4)).f0))).setCell ⟨gb187, 1, none⟩ (.int .i64 ((rd_T48 l0 (ji4)).f1)))).cell? _ = some _ from hx189_0)); (try have hy189_1 := fun (n_ : Nat) => (show ((((w8.drewN n_).setCell ⟨gb187, 0, none⟩ (.int .i64 ((rd_T48 l0 (ji4)).f0))).setCell ⟨gb187, 1, none⟩ (.int .i64 ((rd_T48 l0 (ji4)).f1)))).cell? _ = some _ from hx189_1)); clear hn189_0; clear hn189_1; replace p189 := eq_true p189; replace q189 := eq_true q189))
        repeat (go_quiet (first | ((with_reducible refine gate_dst (N := 5) rfl ?_); refine bx (cs := #[.int .i64 0, .int .i64 0]) (t := 48) ?_; intro gb187 hg w8 hbox hb; have n0_ := sb hb; have n1_ := Aside0.mk (hbox); have n2_ := zb hg; have n3_ := zb hg; clear HB; have HB := n0_; have BK187 := n1_; have GW187 := n2_; have GE187 := n3_; clear n0_ n1_ n2_ n3_; clear hb hbox hg; have hcz9_0 := ck BK187 0; have hcz9_1 := ck BK187 1; have hfz9_0 := blk_frozen BK187.out 0; have hfz9_1 := blk_frozen BK187.out 1; have p188 : 0 ≤ (x4_1 : Int) := da; have q188 : x4_1 < (l0.length : Int) := da; obtain ⟨ad188, e188, hx188_0, hx188_1⟩ := at_T48 HR0.out x4_1 p188 q188; obtain rfl : ad186 = ad188 := (by injection e188); have hn188_0 : ad186.block ≠ gb187 := nw hx188_0 GW187; have hn188_1 : ad186.block ≠ gb187 := nw hx188_0 GW187; replace hx188_0 := (HB.out.cell (bL w _ hx188_0)).trans hx188_0; replace hx188_1 := (HB.out.cell (bL w _ hx188_1)).trans hx188_1; replace hx188_0 := cf hn188_0 hx188_0 0 (.int .i64 ((rd_T48 l0 (ji4)).f0)); replace hx188_1 := cf hn188_0 hx188_1 0 (.int .i64 ((rd_T48 l0 (ji4)).f0)); replace hx188_0 := cf hn188_1 hx188_0 1 (.int .i64 ((rd_T48 l0 (ji4)).f1)); replace hx188_1 := cf hn188_1 hx188_1 1 (.int .i64 ((rd_T48 l0 (ji4)).f1)); (try have hy188_0 := fun (n_ : Nat) => (show ((((w8.drewN n_).setCell ⟨gb187, 0, none⟩ (.int .i64 ((rd_T48 l0 (ji4)).f0))).setCell ⟨gb187, 1, none⟩ (.int .i64 ((rd_T48 l0 (ji4)).f1)))).cell? _ = some _ from hx188_0)); (try have hy188_1 := fun (n_ : Nat) => (show ((((w8.drewN n_).setCell ⟨gb187, 0, none⟩ (.int .i64 ((rd_T48 l0 (ji4)).f0))).setCell ⟨gb187, 1, none⟩ (.int .i64 ((rd_T48 l0 (ji4)).f1)))).cell? _ = some _ from hx188_1)); clear hn188_0; clear hn188_1; replace p188 := eq_true p188; replace q188 := eq_true q188; have p189 : 0 ≤ (x4_1 : Int) := da; have q189 : x4_1 < (l0.length : Int) := da; obtain ⟨ad189, e189, hx189_0, hx189_1⟩ := at_T48 HR0.out x4_1 p189 q189; obtain rfl : ad186 = ad189 := (by injection e189); have hn189_0 : ad186.block ≠ gb187 := nw hx189_0 GW187; have hn189_1 : ad186.block ≠ gb187 := nw hx189_0 GW187; replace hx189_0 := (HB.out.cell (bL w _ hx189_0)).trans hx189_0; replace hx189_1 := (HB.out.cell (bL w _ hx189_1)).trans hx189_1; replace hx189_0 := cf hn189_0 hx189_0 0 (.int .i64 ((rd_T48 l0 (ji4)).f0)); replace hx189_1 := cf hn189_0 hx189_1 0 (.int .i64 ((rd_T48 l0 (ji4)).f0)); replace hx189_0 := cf hn189_1 hx189_0 1 (.int .i64 ((rd_T48 l0 (ji4)).f1)); replace hx189_1 := cf hn189_1 hx189_1 1 (.int .i64 ((rd_T48 l0 (ji4)).f1)); (try have hy189_0 := fun (n_ : Nat) => (show ((((w8.drewN n_).setCell ⟨gb187, 0, none⟩ (.int .i64 ((rd_T48 l0 (ji4)).f0))).setCell ⟨gb187, 1, none⟩ (.int .i64 ((rd_T48 l0 (ji4)).f1)))).cell? _ = some _ from hx189_0)); (try have hy189_1 := fun (n_ : Nat) => (show ((((w8.drewN n_).setCell ⟨gb187, 0, none⟩ (.int .i64 ((rd_T48 l0 (ji4)).f0))).setCell ⟨gb187, 1, none⟩ (.int .i64 ((rd_T48 l0 (ji4)).f1)))).cell? _ = some _ from hx189_1)); clear hn189_0; clear hn189_1; replace p189 := eq_true p189; replace q189 := eq_true q189)); try go_wp2_with (first | ((with_reducible refine gate_dst (N := 5) rfl ?_); refine bx (cs := #[.int .i64 0, .int .i64 0]) (t := 48) ?_; intro gb187 hg w8 hbox hb; have n0_ := sb hb; have n1_ := Aside0.mk (hbox); have n2_ := zb hg; have n3_ := zb hg; clear HB; have HB := n0_; have BK187 := n1_; have GW187 := n2_; have GE187 := n3_; clear n0_ n1_ n2_ n3_; clear hb hbox hg; have hcz9_0 := ck BK187 0; have hcz9_1 := ck BK187 1; have hfz9_0 := blk_frozen BK187.out 0; have hfz9_1 := blk_frozen BK187.out 1; have p188 : 0 ≤ (x4_1 : Int) := da; have q188 : x4_1 < (l0.length : Int) := da; obtain ⟨ad188, e188, hx188_0, hx188_1⟩ := at_T48 HR0.out x4_1 p188 q188; obtain rfl : ad186 = ad188 := (by injection e188); have hn188_0 : ad186.block ≠ gb187 := nw hx188_0 GW187; have hn188_1 : ad186.block ≠ gb187 := nw hx188_0 GW187; replace hx188_0 := (HB.out.cell (bL w _ hx188_0)).trans hx188_0; replace hx188_1 := (HB.out.cell (bL w _ hx188_1)).trans hx188_1; replace hx188_0 := cf hn188_0 hx188_0 0 (.int .i64 ((rd_T48 l0 (ji4)).f0)); replace hx188_1 := cf hn188_0 hx188_1 0 (.int .i64 ((rd_T48 l0 (ji4)).f0)); replace hx188_0 := cf hn188_1 hx188_0 1 (.int .i64 ((rd_T48 l0 (ji4)).f1)); replace hx188_1 := cf hn188_1 hx188_1 1 (.int .i64 ((rd_T48 l0 (ji4)).f1)); (try have hy188_0 := fun (n_ : Nat) => (show ((((w8.drewN n_).setCell ⟨gb187, 0, none⟩ (.int .i64 ((rd_T48 l0 (ji4)).f0))).setCell ⟨gb187, 1, none⟩ (.int .i64 ((rd_T48 l0 (ji4)).f1)))).cell? _ = some _ from hx188_0)); (try have hy188_1 := fun (n_ : Nat) => (show ((((w8.drewN n_).setCell ⟨gb187, 0, none⟩ (.int .i64 ((rd_T48 l0 (ji4)).f0))).setCell ⟨gb187, 1, none⟩ (.int .i64 ((rd_T48 l0 (ji4)).f1)))).cell? _ = some _ from hx188_1)); clear hn188_0; clear hn188_1; replace p188 := eq_true p188; replace q188 := eq_true q188; have p189 : 0 ≤ (x4_1 : Int) := da; have q189 : x4_1 < (l0.length : Int) := da; obtain ⟨ad189, e189, hx189_0, hx189_1⟩ := at_T48 HR0.out x4_1 p189 q189; obtain rfl : ad186 = ad189 := (by injection e189); have hn189_0 : ad186.block ≠ gb187 := nw hx189_0 GW187; have hn189_1 : ad186.block ≠ gb187 := nw hx189_0 GW187; replace hx189_0 := (HB.out.cell (bL w _ hx189_0)).trans hx189_0; replace hx189_1 := (HB.out.cell (bL w _ hx189_1)).trans hx189_1; replace hx189_0 := cf hn189_0 hx189_0 0 (.int .i64 ((rd_T48 l0 (ji4)).f0)); replace hx189_1 := cf hn189_0 hx189_1 0 (.int .i64 ((rd_T48 l0 (ji4)).f0)); replace hx189_0 := cf hn189_1 hx189_0 1 (.int .i64 ((rd_T48 l0 (ji4)).f1)); replace hx189_1 := cf hn189_1 hx189_1 1 (.int .i64 ((rd_T48 l0 (ji4)).f1)); (try have hy189_0 := fun (n_ : Nat) => (show ((((w8.drewN n_).setCell ⟨gb187, 0, none⟩ (.int .i64 ((rd_T48 l0 (ji4)).f0))).setCell ⟨gb187, 1, none⟩ (.int .i64 ((rd_T48 l0 (ji4)).f1)))).cell? _ = some _ from hx189_0)); (try have hy189_1 := fun (n_ : Nat) => (show ((((w8.drewN n_).setCell ⟨gb187, 0, none⟩ (.int .i64 ((rd_T48 l0 (ji4)).f0))).setCell ⟨gb187, 1, none⟩ (.int .i64 ((rd_T48 l0 (ji4)).f1)))).cell? _ = some _ from hx189_1)); clear hn189_0; clear hn189_1; replace p189 := eq_true p189; replace q189 := eq_true q189)))
        go_roundg k1
        case measure => have := HK1.out; omega
        case rel => exact ⟨(wrap64 (x3_1 + (wrap64 ((wrap64 (((rd_T48 l0 x4_1).f0) * ((rd_T48 l0 (ji4)).f1))) - (wrap64 (((rd_T48 l0 x4_1).f1) * ((rd_T48 l0 (ji4)).f0))))))), (wrap64 (x4_1 + 1)), (by first | rfl | (simp; done) | (simp only [← hji4] <;> (first | rfl | simp)) | (simp [*]; done)), (by first | rfl | (simp; done) | (simp [*]; done)), H', ⟨by have := HK1.out; omega⟩, ⟨by repeat (first | (with_reducible first | exact HB.out | apply below_alloc | apply pw_below_drewN | apply below_drew1 | refine below_set ?_ GE187.out) | exact HB.out)⟩⟩
       ·rw [if_neg c7] at H
        exact absurd H (by simp)
      ·rw [if_neg c6] at H
       exact absurd H (by simp)
     ·rw [if_neg c5] at H
      exact absurd H (by simp)
   ·rw [if_neg c2] at H
    have c2b0 : decide (x4_1 < (l0.length : Int)) = false := decide_eq_false c2
    clear c2
    obtain rfl := Option.some.inj H
    go_wp2
    repeat (go_quiet (fail); try go_wp2)
    go_ret
    exact ⟨by first | rfl | (simp [errW_none, errW_some] <;> rfl) | (simp [*, errW_none, errW_some] <;> rfl), by repeat (first | (with_reducible first | exact HB.out | apply below_alloc | apply pw_below_drewN | apply below_drew1) | exact HB.out)⟩
def spec_l02Cross.f (a0_0 : Int) (a0_1 : Int) (a1_0 : Int) (a1_1 : Int) (a2_0 : Int) (a2_1 : Int) : Option (Int) := some (wrap64 ((wrap64 ((wrap64 (a1_0 - a0_0)) * (wrap64 (a2_1 - a0_1)))) - (wrap64 ((wrap64 (a1_1 - a0_1)) * (wrap64 (a2_0 - a0_0))))))
set_option maxHeartbeats 8000000 in
set_option maxRecDepth 100000 in
theorem spec_l02Cross.calls (a0_0 : Int) (a0_1 : Int) (a1_0 : Int) (a1_1 : Int) (a2_0 : Int) (a2_1 : Int) (r : Int) (w : World) (h : spec_l02Cross.f a0_0 a0_1 a1_0 a1_1 a2_0 a2_1 = some r) :
  Calls Try.prog 95 #[.agg #[.int .i64 a0_0, .int .i64 a0_1], .agg #[.int .i64 a1_0, .int .i64 a1_1], .agg #[.int .i64 a2_0, .int .i64 a2_1]] w fun e w' => e = .returned (.int .i64 r) ∧ Below w.heap.size w w' := by
 have hu48 := Try.underlying48
 have HB := Aside0.mk (Below.refl w.heap.size w)
 have H : (some (wrap64 ((wrap64 ((wrap64 (a1_0 - a0_0)) * (wrap64 (a2_1 - a0_1)))) - (wrap64 ((wrap64 (a1_1 - a0_1)) * (wrap64 (a2_0 - a0_0))))))) = some r := h
 clear h
 obtain rfl := Option.some.inj H
 go_enter Try.func95, Try.ntmps95
 go_wp2_with (first | ((with_reducible refine gate_dst (N := 3) rfl ?_); refine bx (cs := #[.int .i64 a0_0, .int .i64 a0_1]) (t := 48) ?_; intro gb190 hg w4 hbox hb; have n0_ := sb hb; have n1_ := Aside0.mk (hbox); have n2_ := zb hg; have n3_ := zb hg; clear HB; have HB := n0_; have BK190 := n1_; have GW190 := n2_; have GE190 := n3_; clear n0_ n1_ n2_ n3_; clear hb hbox hg) | ((with_reducible refine gate_dst (N := 4) rfl ?_); refine bx (cs := #[.int .i64 a1_0, .int .i64 a1_1]) (t := 48) ?_; intro gb191 hg w5 hbox hb; have n0_ := kb BK190 hb; have n1_ := sb hb; have n2_ := Aside0.mk (hbox); have n3_ := zb hg; have n4_ := zb hg; have n5_ := nl BK190 hg; have n6_ := ng BK190 hg; clear BK190; clear HB; have BK190 := n0_; have HB := n1_; have BK191 := n2_; have GW191 := n3_; have GE191 := n4_; have NB190_191 := n5_; have NB191_190 := n6_; clear n0_ n1_ n2_ n3_ n4_ n5_ n6_; clear hb hbox hg) | ((with_reducible refine gate_dst (N := 5) rfl ?_); refine bx (cs := #[.int .i64 a2_0, .int .i64 a2_1]) (t := 48) ?_; intro gb192 hg w6 hbox hb; have n0_ := kb BK190 hb; have n1_ := kb BK191 hb; have n2_ := sb hb; have n3_ := Aside0.mk (hbox); have n4_ := zb hg; have n5_ := zb hg; have n6_ := nl BK190 hg; have n7_ := ng BK190 hg; have n8_ := nl BK191 hg; have n9_ := ng BK191 hg; clear BK190; clear BK191; clear HB; have BK190 := n0_; have BK191 := n1_; have HB := n2_; have BK192 := n3_; have GW192 := n4_; have GE192 := n5_; have NB190_192 := n6_; have NB192_190 := n7_; have NB191_192 := n8_; have NB192_191 := n9_; clear n0_ n1_ n2_ n3_ n4_ n5_ n6_ n7_ n8_ n9_; clear hb hbox hg; have hnb7 := NB191_190.out; have hnc7 := NB190_191.out; have hnb8 := NB191_192.out; have hnc8 := NB192_191.out; have hcz9_0 := ck BK191 0; have hcz9_1 := ck BK191 1; have hfz9_0 := blk_frozen BK191.out 0; have hfz9_1 := blk_frozen BK191.out 1; have hnb10 := NB190_192.out; have hnc10 := NB192_190.out; have hcz11_0 := ck BK190 0; have hcz11_1 := ck BK190 1; have hfz11_0 := blk_frozen BK190.out 0; have hfz11_1 := blk_frozen BK190.out 1; have hcz12_0 := ck BK192 0; have hcz12_1 := ck BK192 1; have hfz12_0 := blk_frozen BK192.out 0; have hfz12_1 := blk_frozen BK192.out 1))
 go_ret
 exact ⟨by first | rfl | (simp [errW_none, errW_some] <;> rfl) | (simp [*, errW_none, errW_some] <;> rfl), by repeat (first | (with_reducible first | exact HB.out | apply below_alloc | apply pw_below_drewN | apply below_drew1 | refine below_set ?_ GE190.out | refine below_set ?_ GE191.out | refine below_set ?_ GE192.out) | exact HB.out)⟩
def spec_l02Side.f (a0_0 : Int) (a0_1 : Int) (a1_0 : Int) (a1_1 : Int) (a2_0 : Int) (a2_1 : Int) : Option (Int) := (spec_l02Cross.f a0_0 a0_1 a1_0 a1_1 a2_0 a2_1).bind fun t196 => (if t196 > 0 then (some 1) else (if t196 < 0 then (some (-1)) else (some 0)))
set_option maxHeartbeats 8000000 in
set_option maxRecDepth 100000 in
theorem spec_l02Side.calls (a0_0 : Int) (a0_1 : Int) (a1_0 : Int) (a1_1 : Int) (a2_0 : Int) (a2_1 : Int) (r : Int) (w : World) (h : spec_l02Side.f a0_0 a0_1 a1_0 a1_1 a2_0 a2_1 = some r) :
  Calls Try.prog 80 #[.agg #[.int .i64 a0_0, .int .i64 a0_1], .agg #[.int .i64 a1_0, .int .i64 a1_1], .agg #[.int .i64 a2_0, .int .i64 a2_1]] w fun e w' => e = .returned (.int .i64 r) ∧ Below w.heap.size w w' := by
 have hu48 := Try.underlying48
 have HB := Aside0.mk (Below.refl w.heap.size w)
 have H : ((spec_l02Cross.f a0_0 a0_1 a1_0 a1_1 a2_0 a2_1).bind fun t196 => (if t196 > 0 then (some 1) else (if t196 < 0 then (some (-1)) else (some 0)))) = some r := h
 clear h
 replace H := Option.bind_eq_some_iff.mp H
 obtain ⟨t196, A40, H⟩ := H
 replace H : (if t196 > 0 then (some 1) else (if t196 < 0 then (some (-1)) else (some 0))) = some r := H
 have A4 := Aside0.mk A40
 clear A40
 by_cases c5 : t196 > 0
 ·rw [if_pos c5] at H
  have c5b0 : decide (0 < t196) = true := decide_eq_true c5
  clear c5
  obtain rfl := Option.some.inj H
  go_enter Try.func80, Try.ntmps80
  go_wp2_with (first | ((with_reducible refine gate_dst (N := 3) rfl ?_); refine bx (cs := #[.int .i64 a0_0, .int .i64 a0_1]) (t := 48) ?_; intro gb193 hg w6 hbox hb; have n0_ := sb hb; have n1_ := Aside0.mk (hbox); have n2_ := zb hg; have n3_ := zb hg; clear HB; have HB := n0_; have BK193 := n1_; have GW193 := n2_; have GE193 := n3_; clear n0_ n1_ n2_ n3_; clear hb hbox hg) | ((with_reducible refine gate_dst (N := 4) rfl ?_); refine bx (cs := #[.int .i64 a1_0, .int .i64 a1_1]) (t := 48) ?_; intro gb194 hg w7 hbox hb; have n0_ := kb BK193 hb; have n1_ := sb hb; have n2_ := Aside0.mk (hbox); have n3_ := zb hg; have n4_ := zb hg; have n5_ := nl BK193 hg; have n6_ := ng BK193 hg; clear BK193; clear HB; have BK193 := n0_; have HB := n1_; have BK194 := n2_; have GW194 := n3_; have GE194 := n4_; have NB193_194 := n5_; have NB194_193 := n6_; clear n0_ n1_ n2_ n3_ n4_ n5_ n6_; clear hb hbox hg) | ((with_reducible refine gate_dst (N := 5) rfl ?_); refine bx (cs := #[.int .i64 a2_0, .int .i64 a2_1]) (t := 48) ?_; intro gb195 hg w8 hbox hb; have n0_ := kb BK193 hb; have n1_ := kb BK194 hb; have n2_ := sb hb; have n3_ := Aside0.mk (hbox); have n4_ := zb hg; have n5_ := zb hg; have n6_ := nl BK193 hg; have n7_ := ng BK193 hg; have n8_ := nl BK194 hg; have n9_ := ng BK194 hg; clear BK193; clear BK194; clear HB; have BK193 := n0_; have BK194 := n1_; have HB := n2_; have BK195 := n3_; have GW195 := n4_; have GE195 := n5_; have NB193_195 := n6_; have NB195_193 := n7_; have NB194_195 := n8_; have NB195_194 := n9_; clear n0_ n1_ n2_ n3_ n4_ n5_ n6_ n7_ n8_ n9_; clear hb hbox hg; have hnb9 := NB193_194.out; have hnc9 := NB194_193.out; have hnb10 := NB193_195.out; have hnc10 := NB195_193.out; have hcz11_0 := ck BK193 0; have hcz11_1 := ck BK193 1; have hfz11_0 := blk_frozen BK193.out 0; have hfz11_1 := blk_frozen BK193.out 1; have hnb12 := NB194_195.out; have hnc12 := NB195_194.out; have hcz13_0 := ck BK194 0; have hcz13_1 := ck BK194 1; have hfz13_0 := blk_frozen BK194.out 0; have hfz13_1 := blk_frozen BK194.out 1; have hcz14_0 := ck BK195 0; have hcz14_1 := ck BK195 1; have hfz14_0 := blk_frozen BK195.out 0; have hfz14_1 := blk_frozen BK195.out 1) | ((with_reducible refine gate_callee (f := 95) rfl ?_); refine goesL_ (some 11) rfl rfl Try.func95 (by kernel_rfl) rfl #[.agg #[.int .i64 a0_0, .int .i64 a0_1], .agg #[.int .i64 a1_0, .int .i64 a1_1], .agg #[.int .i64 a2_0, .int .i64 a2_1]] rfl (by (try simp only [List.map_toArray, List.map_cons, List.map_nil]); first | done | rfl | (simp only [List.length_drop, List.length_take]; rfl)) ?_; (with_reducible refine (spec_l02Cross.calls a0_0 a0_1 a1_0 a1_1 a2_0 a2_1 t196 _ A4.out).mono ?_); rintro e w15 ⟨rfl, hb⟩; refine ⟨_, rfl, ?_⟩; have n0_ := kb BK193 hb; have n1_ := kb BK194 hb; have n2_ := kb BK195 hb; have n3_ := sb hb; clear BK193; clear BK194; clear BK195; clear HB; have BK193 := n0_; have BK194 := n1_; have BK195 := n2_; have HB := n3_; clear n0_ n1_ n2_ n3_; (try clear hb); (try clear hb2); (try clear hk); (try clear hi)))
  go_ret
  exact ⟨by first | rfl | (simp [errW_none, errW_some] <;> rfl) | (simp [*, errW_none, errW_some] <;> rfl), by repeat (first | (with_reducible first | exact HB.out | apply below_alloc | apply pw_below_drewN | apply below_drew1 | refine below_set ?_ GE193.out | refine below_set ?_ GE194.out | refine below_set ?_ GE195.out) | exact HB.out)⟩
 ·rw [if_neg c5] at H
  have c5b0 : decide (0 < t196) = false := decide_eq_false c5
  clear c5
  by_cases c16 : t196 < 0
  ·rw [if_pos c16] at H
   have c16b0 : decide (t196 < 0) = true := decide_eq_true c16
   clear c16
   obtain rfl := Option.some.inj H
   go_enter Try.func80, Try.ntmps80
   go_wp2_with (first | ((with_reducible refine gate_dst (N := 3) rfl ?_); refine bx (cs := #[.int .i64 a0_0, .int .i64 a0_1]) (t := 48) ?_; intro gb193 hg w17 hbox hb; have n0_ := sb hb; have n1_ := Aside0.mk (hbox); have n2_ := zb hg; have n3_ := zb hg; clear HB; have HB := n0_; have BK193 := n1_; have GW193 := n2_; have GE193 := n3_; clear n0_ n1_ n2_ n3_; clear hb hbox hg) | ((with_reducible refine gate_dst (N := 4) rfl ?_); refine bx (cs := #[.int .i64 a1_0, .int .i64 a1_1]) (t := 48) ?_; intro gb194 hg w18 hbox hb; have n0_ := kb BK193 hb; have n1_ := sb hb; have n2_ := Aside0.mk (hbox); have n3_ := zb hg; have n4_ := zb hg; have n5_ := nl BK193 hg; have n6_ := ng BK193 hg; clear BK193; clear HB; have BK193 := n0_; have HB := n1_; have BK194 := n2_; have GW194 := n3_; have GE194 := n4_; have NB193_194 := n5_; have NB194_193 := n6_; clear n0_ n1_ n2_ n3_ n4_ n5_ n6_; clear hb hbox hg) | ((with_reducible refine gate_dst (N := 5) rfl ?_); refine bx (cs := #[.int .i64 a2_0, .int .i64 a2_1]) (t := 48) ?_; intro gb195 hg w19 hbox hb; have n0_ := kb BK193 hb; have n1_ := kb BK194 hb; have n2_ := sb hb; have n3_ := Aside0.mk (hbox); have n4_ := zb hg; have n5_ := zb hg; have n6_ := nl BK193 hg; have n7_ := ng BK193 hg; have n8_ := nl BK194 hg; have n9_ := ng BK194 hg; clear BK193; clear BK194; clear HB; have BK193 := n0_; have BK194 := n1_; have HB := n2_; have BK195 := n3_; have GW195 := n4_; have GE195 := n5_; have NB193_195 := n6_; have NB195_193 := n7_; have NB194_195 := n8_; have NB195_194 := n9_; clear n0_ n1_ n2_ n3_ n4_ n5_ n6_ n7_ n8_ n9_; clear hb hbox hg; have hnb20 := NB193_194.out; have hnc20 := NB194_193.out; have hnb21 := NB193_195.out; have hnc21 := NB195_193.out; have hcz22_0 := ck BK193 0; have hcz22_1 := ck BK193 1; have hfz22_0 := blk_frozen BK193.out 0; have hfz22_1 := blk_frozen BK193.out 1; have hnb23 := NB194_195.out; have hnc23 := NB195_194.out; have hcz24_0 := ck BK194 0; have hcz24_1 := ck BK194 1; have hfz24_0 := blk_frozen BK194.out 0; have hfz24_1 := blk_frozen BK194.out 1; have hcz25_0 := ck BK195 0; have hcz25_1 := ck BK195 1; have hfz25_0 := blk_frozen BK195.out 0; have hfz25_1 := blk_frozen BK195.out 1) | ((with_reducible refine gate_callee (f := 95) rfl ?_); refine goesL_ (some 11) rfl rfl Try.func95 (by kernel_rfl) rfl #[.agg #[.int .i64 a0_0, .int .i64 a0_1], .agg #[.int .i64 a1_0, .int .i64 a1_1], .agg #[.int .i64 a2_0, .int .i64 a2_1]] rfl (by (try simp only [List.map_toArray, List.map_cons, List.map_nil]); first | done | rfl | (simp only [List.length_drop, List.length_take]; rfl)) ?_; (with_reducible refine (spec_l02Cross.calls a0_0 a0_1 a1_0 a1_1 a2_0 a2_1 t196 _ A4.out).mono ?_); rintro e w26 ⟨rfl, hb⟩; refine ⟨_, rfl, ?_⟩; have n0_ := kb BK193 hb; have n1_ := kb BK194 hb; have n2_ := kb BK195 hb; have n3_ := sb hb; clear BK193; clear BK194; clear BK195; clear HB; have BK193 := n0_; have BK194 := n1_; have BK195 := n2_; have HB := n3_; clear n0_ n1_ n2_ n3_; (try clear hb); (try clear hb2); (try clear hk); (try clear hi)))
   go_ret
   exact ⟨by first | rfl | (simp [errW_none, errW_some] <;> rfl) | (simp [*, errW_none, errW_some] <;> rfl), by repeat (first | (with_reducible first | exact HB.out | apply below_alloc | apply pw_below_drewN | apply below_drew1 | refine below_set ?_ GE193.out | refine below_set ?_ GE194.out | refine below_set ?_ GE195.out) | exact HB.out)⟩
  ·rw [if_neg c16] at H
   have c16b0 : decide (t196 < 0) = false := decide_eq_false c16
   clear c16
   obtain rfl := Option.some.inj H
   go_enter Try.func80, Try.ntmps80
   go_wp2_with (first | ((with_reducible refine gate_dst (N := 3) rfl ?_); refine bx (cs := #[.int .i64 a0_0, .int .i64 a0_1]) (t := 48) ?_; intro gb193 hg w27 hbox hb; have n0_ := sb hb; have n1_ := Aside0.mk (hbox); have n2_ := zb hg; have n3_ := zb hg; clear HB; have HB := n0_; have BK193 := n1_; have GW193 := n2_; have GE193 := n3_; clear n0_ n1_ n2_ n3_; clear hb hbox hg) | ((with_reducible refine gate_dst (N := 4) rfl ?_); refine bx (cs := #[.int .i64 a1_0, .int .i64 a1_1]) (t := 48) ?_; intro gb194 hg w28 hbox hb; have n0_ := kb BK193 hb; have n1_ := sb hb; have n2_ := Aside0.mk (hbox); have n3_ := zb hg; have n4_ := zb hg; have n5_ := nl BK193 hg; have n6_ := ng BK193 hg; clear BK193; clear HB; have BK193 := n0_; have HB := n1_; have BK194 := n2_; have GW194 := n3_; have GE194 := n4_; have NB193_194 := n5_; have NB194_193 := n6_; clear n0_ n1_ n2_ n3_ n4_ n5_ n6_; clear hb hbox hg) | ((with_reducible refine gate_dst (N := 5) rfl ?_); refine bx (cs := #[.int .i64 a2_0, .int .i64 a2_1]) (t := 48) ?_; intro gb195 hg w29 hbox hb; have n0_ := kb BK193 hb; have n1_ := kb BK194 hb; have n2_ := sb hb; have n3_ := Aside0.mk (hbox); have n4_ := zb hg; have n5_ := zb hg; have n6_ := nl BK193 hg; have n7_ := ng BK193 hg; have n8_ := nl BK194 hg; have n9_ := ng BK194 hg; clear BK193; clear BK194; clear HB; have BK193 := n0_; have BK194 := n1_; have HB := n2_; have BK195 := n3_; have GW195 := n4_; have GE195 := n5_; have NB193_195 := n6_; have NB195_193 := n7_; have NB194_195 := n8_; have NB195_194 := n9_; clear n0_ n1_ n2_ n3_ n4_ n5_ n6_ n7_ n8_ n9_; clear hb hbox hg; have hnb30 := NB193_194.out; have hnc30 := NB194_193.out; have hnb31 := NB193_195.out; have hnc31 := NB195_193.out; have hcz32_0 := ck BK193 0; have hcz32_1 := ck BK193 1; have hfz32_0 := blk_frozen BK193.out 0; have hfz32_1 := blk_frozen BK193.out 1; have hnb33 := NB194_195.out; have hnc33 := NB195_194.out; have hcz34_0 := ck BK194 0; have hcz34_1 := ck BK194 1; have hfz34_0 := blk_frozen BK194.out 0; have hfz34_1 := blk_frozen BK194.out 1; have hcz35_0 := ck BK195 0; have hcz35_1 := ck BK195 1; have hfz35_0 := blk_frozen BK195.out 0; have hfz35_1 := blk_frozen BK195.out 1) | ((with_reducible refine gate_callee (f := 95) rfl ?_); refine goesL_ (some 11) rfl rfl Try.func95 (by kernel_rfl) rfl #[.agg #[.int .i64 a0_0, .int .i64 a0_1], .agg #[.int .i64 a1_0, .int .i64 a1_1], .agg #[.int .i64 a2_0, .int .i64 a2_1]] rfl (by (try simp only [List.map_toArray, List.map_cons, List.map_nil]); first | done | rfl | (simp only [List.length_drop, List.length_take]; rfl)) ?_; (with_reducible refine (spec_l02Cross.calls a0_0 a0_1 a1_0 a1_1 a2_0 a2_1 t196 _ A4.out).mono ?_); rintro e w36 ⟨rfl, hb⟩; refine ⟨_, rfl, ?_⟩; have n0_ := kb BK193 hb; have n1_ := kb BK194 hb; have n2_ := kb BK195 hb; have n3_ := sb hb; clear BK193; clear BK194; clear BK195; clear HB; have BK193 := n0_; have BK194 := n1_; have BK195 := n2_; have HB := n3_; clear n0_ n1_ n2_ n3_; (try clear hb); (try clear hb2); (try clear hk); (try clear hi)))
   go_ret
   exact ⟨by first | rfl | (simp [errW_none, errW_some] <;> rfl) | (simp [*, errW_none, errW_some] <;> rfl), by repeat (first | (with_reducible first | exact HB.out | apply below_alloc | apply pw_below_drewN | apply below_drew1 | refine below_set ?_ GE193.out | refine below_set ?_ GE194.out | refine below_set ?_ GE195.out) | exact HB.out)⟩
def spec_l00Min.f (a0 : Int) (a1 : Int) : Option (Int) := if a0 < a1 then (some a0) else (some a1)
set_option maxHeartbeats 8000000 in
set_option maxRecDepth 100000 in
theorem spec_l00Min.calls (a0 : Int) (a1 : Int) (r : Int) (w : World) (h : spec_l00Min.f a0 a1 = some r) :
  Calls Try.prog 93 #[.int .i64 a0, .int .i64 a1] w fun e w' => e = .returned (.int .i64 r) ∧ Drawn0 w w' := by
 have H : (if a0 < a1 then (some a0) else (some a1)) = some r := h
 clear h
 by_cases c3 : a0 < a1
 ·rw [if_pos c3] at H
  have c3b0 : decide (a0 < a1) = true := decide_eq_true c3
  clear c3
  obtain rfl := Option.some.inj H
  go_enter Try.func93, Try.ntmps93
  go_wp2
  go_ret
  exact ⟨by first | rfl | (simp; done) | (simp [*]; done), by repeat (first | exact Drawn0.refl _ | apply Drawn0.step)⟩
 ·rw [if_neg c3] at H
  have c3b0 : decide (a0 < a1) = false := decide_eq_false c3
  clear c3
  obtain rfl := Option.some.inj H
  go_enter Try.func93, Try.ntmps93
  go_wp2
  go_ret
  exact ⟨by first | rfl | (simp; done) | (simp [*]; done), by repeat (first | exact Drawn0.refl _ | apply Drawn0.step)⟩
end Go.Proofs.Ytlfifbalakgfeaa.PFnExactFaceAt
