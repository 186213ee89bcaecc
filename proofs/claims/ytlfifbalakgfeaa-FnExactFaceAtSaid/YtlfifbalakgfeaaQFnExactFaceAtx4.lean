/- Contracts of functions that FnExactFaceAt reaches, out of the lines of the kit's print. -/
import Derived.Test.YtlfifbalakgfeaaQFnExactFaceAtx0
import Derived.Test.YtlfifbalakgfeaaQFnExactFaceAtx1
import Derived.Test.YtlfifbalakgfeaaQFnExactFaceAtx3
namespace Go.Proofs.Ytlfifbalakgfeaa.PFnExactFaceAt
open Go.RowKit Go.Proofs.YtlfifbalakgfeaaW.PrintWords Go.Proofs.YtlfifbalakgfeaaW.PrintLast Go.Proofs.YtlfifbalakgfeaaW.PrintMore
open Bool renaming true → tT, false → fF
open Go.World renaming block_lt_of_cell? → bL
attribute [local go_sem] max2_int min2_int max_two min_two max_three min_three max_four min_four
set_option linter.unusedVariables false
set_option linter.unusedSimpArgs false
attribute [local go_sem high] eqA48
def laws_eqFaceS.l0 : Nat → List (S67) → List (S67) → Int → Option (Bool)
 | 0, _, _, _ => none
 | k + 1, x0, x1, x5 => if x5 < (x0.length : Int) then (if 0 ≤ x5 then (if x5 < (x1.length : Int) then ((laws_eqFace.f k ((rd_T67 x0 x5).f0) ((rd_T67 x0 x5).f1) ((rd_T67 x1 x5).f0) ((rd_T67 x1 x5).f1)).bind fun t159 => (if t159 = true then (laws_eqFaceS.l0 k x0 x1 (wrap64 (x5 + 1))) else (some false))) else (none)) else (none)) else (some true)
def laws_eqFaceS.f (k : Nat) (l0 : List (S67)) (l1 : List (S67)) : Option (Bool) := if (l0.length : Int) = (l1.length : Int) then (laws_eqFaceS.l0 k l0 l1 0) else (some false)
theorem laws_eqFaceS.mono_l : ∀ k, (∀ y0 y1 y2, LeO (laws_eqFaceS.l0 k y0 y1 y2) (laws_eqFaceS.l0 (k + 1) y0 y1 y2))
 | 0 => fun _ _ _ r h => by simp [laws_eqFaceS.l0] at h
 | k + 1 => by
  have ih0 := laws_eqFaceS.mono_l k
  ·intro y0 y1 y2
   unfold laws_eqFaceS.l0
   repeat' first
   | (with_reducible exact ih0 _ _ _)
   | (with_reducible exact laws_eqFace.mono _ _ _ _ _)
   | (with_reducible exact LeO.refl _)
   | (with_reducible exact LeO.none _)
   | (with_reducible refine LeO.ite ?_ ?_)
   | (with_reducible refine LeO.bind ?_ (fun _ => ?_))
   | exact ih0 _ _ _
   | exact laws_eqFace.mono _ _ _ _ _
   | exact LeO.none _
   | refine LeO.ite ?_ ?_
   | refine LeO.bind ?_ (fun _ => ?_)
theorem laws_eqFaceS.mono : ∀ a0 a1 k, LeO (laws_eqFaceS.f k a0 a1) (laws_eqFaceS.f (k + 1) a0 a1) := by
 intro a0 a1 k
 have ih0 := laws_eqFaceS.mono_l k
 unfold laws_eqFaceS.f
 repeat' first
   | (with_reducible exact ih0 _ _ _)
   | (with_reducible exact laws_eqFace.mono _ _ _ _ _)
   | (with_reducible exact LeO.refl _)
   | (with_reducible exact LeO.none _)
   | (with_reducible refine LeO.ite ?_ ?_)
   | (with_reducible refine LeO.bind ?_ (fun _ => ?_))
   | exact ih0 _ _ _
   | exact laws_eqFace.mono _ _ _ _ _
   | exact LeO.none _
   | refine LeO.ite ?_ ?_
   | refine LeO.bind ?_ (fun _ => ?_)
def laws_eqFaceS.T6 : Bool × List (List Nat × List Nat) := (true, [([], []), ([], []), ([0, 1], [0, 1]), ([2], [2]), ([], []), ([], []), ([4, 5], [4, 5]), ([6], [6]), ([3, 7], [3, 7]), ([8], [8])])
def laws_eqFaceS.B6 : List Nat := [0, 0, 3, 7, 0, 0, 48, 112, 255, 511]
theorem laws_eqFaceS.tab6 : rtab .any (opsOf Try.f45 6) = laws_eqFaceS.T6 := by kernel_rfl
theorem laws_eqFaceS.bits6 : waitsOk laws_eqFaceS.T6.2 laws_eqFaceS.B6 = true := by kernel_rfl
set_option maxHeartbeats 8000000 in
set_option maxRecDepth 100000 in
theorem laws_eqFaceS.calls (k : Nat) (A0 : Option Addr) (c0 : Nat) (l0 : List (S67)) (A1 : Option Addr) (c1 : Nat) (l1 : List (S67)) (r : Bool) (w : World) (hr0 : Kd.C k67 w A0 l0.length l0) (hc0 : l0.length ≤ c0) (hr1 : Kd.C k67 w A1 l1.length l1) (hc1 : l1.length ≤ c1) (h : laws_eqFaceS.f k l0 l1 = some r) :
  Calls Try.prog 45 #[.slice A0 l0.length c0, .slice A1 l1.length c1] w fun e w' => e = .returned (.bool r) ∧ Below w.heap.size w w' := by
 have hu67 := Try.underlying67
 have HR0 := Aside0.mk hr0
 have HC0 := Aside0.mk hc0
 clear hr0 hc0
 have HR1 := Aside0.mk hr1
 have HC1 := Aside0.mk hc1
 clear hr1 hc1
 have HB := Aside0.mk (Below.refl w.heap.size w)
 have H : (if (l0.length : Int) = (l1.length : Int) then (laws_eqFaceS.l0 k l0 l1 0) else (some false)) = some r := h
 clear h
 by_cases c3 : (l0.length : Int) = (l1.length : Int)
 ·rw [if_pos c3] at H
  have c3b0 : ((l0.length : Int) == (l1.length : Int)) = true := beq_iff_eq.mpr c3
  have c3b1 : ((l0.length : Int) != (l1.length : Int)) = false := bne_eq_false_iff_eq.mpr c3
  have c3b2 : (l0.length == l1.length) = true := by first | simpa using c3 | (simp at c3 ⊢; omega)
  clear c3
  have H' := Aside0.mk H
  clear H
  go_enter Try.func45, Try.ntmps45
  go_wp2
  go_loopg [5] k (fun kq v5 w' => ∃ (x5_1 : Int), v5 = .int .i64 x5_1 ∧ Aside0 (laws_eqFaceS.l0 kq l0 l1 x5_1 = some r) ∧ Aside0 (kq ≤ k) ∧ Aside0 (Below w.heap.size w w'))
  case atStart => exact ⟨(0), (by first | rfl | (simp; done) | (simp [*]; done)), H', ⟨Nat.le_refl _⟩, ⟨by repeat (first | (with_reducible first | exact HB.out | apply below_alloc | apply pw_below_drewN | apply below_drew1) | exact HB.out)⟩⟩
  case round =>
   clear H'
   try clear c1
   try clear p2
   try clear c3
   try clear c3b0
   try clear c3b1
   try clear c3b2
   obtain ⟨x5_1, rfl, HA, HK1, HB⟩ := hrel
   cases gk with
   | zero => exact absurd HA.out (by simp [laws_eqFaceS.l0])
   | succ k1 =>
    have H := HA.out
    clear HA
    simp only [laws_eqFaceS.l0] at H
    by_cases c4 : x5_1 < (l0.length : Int)
    ·rw [if_pos c4] at H
     have c4b0 : decide (x5_1 < (l0.length : Int)) = true := decide_eq_true c4
     clear c4
     by_cases c5 : 0 ≤ x5_1
     ·rw [if_pos c5] at H
      have c5b0 : decide (0 ≤ x5_1) = true := decide_eq_true c5
      clear c5
      by_cases c6 : x5_1 < (l1.length : Int)
      ·rw [if_pos c6] at H
       have c6b0 : decide (x5_1 < (l1.length : Int)) = true := decide_eq_true c6
       clear c6
       replace H := Option.bind_eq_some_iff.mp H
       obtain ⟨t159, A70, H⟩ := H
       replace H : (if t159 = true then (laws_eqFaceS.l0 k1 l0 l1 (wrap64 (x5_1 + 1))) else (some false)) = some r := H
       have A7 := Aside0.mk A70
       clear A70
       by_cases c8 : t159 = true
       ·subst c8
        have H1 : (laws_eqFaceS.l0 k1 l0 l1 (wrap64 (x5_1 + 1))) = some r := by rw [if_pos rfl] at H; exact H
        clear H
        have H := H1
        clear H1
        have H' := Aside0.mk H
        clear H
        try go_wp2
        have n0_ := Aside0.mk (below_drew1 HB.out)
        clear HB
        have HB := n0_
        clear n0_
        have p157 : 0 ≤ (x5_1 : Int) := da
        have q157 : x5_1 < (l0.length : Int) := da
        obtain ⟨ad157, A157_1, c157_1, e157, hx157_0, hx157_1, hl157_1, hi157_1⟩ := at_T67 HR0.out x5_1 p157 q157
        have hw157_1 := hx157_1
        have hw157_0 := hx157_0
        cases e157
        replace hx157_0 := (HB.out.cell (bL w _ hx157_0)).trans hx157_0
        replace hx157_1 := (HB.out.cell (bL w _ hx157_1)).trans hx157_1
        have HR157_1 := Aside0.mk hi157_1
        have HC157_1 := Aside0.mk hl157_1
        clear hi157_1 hl157_1
        replace p157 := eq_true p157
        replace q157 := eq_true q157
        have p158 : 0 ≤ (x5_1 : Int) := da
        have q158 : x5_1 < (l1.length : Int) := da
        obtain ⟨ad158, A158_1, c158_1, e158, hx158_0, hx158_1, hl158_1, hi158_1⟩ := at_T67 HR1.out x5_1 p158 q158
        have hw158_1 := hx158_1
        have hw158_0 := hx158_0
        cases e158
        replace hx158_0 := (HB.out.cell (bL w _ hx158_0)).trans hx158_0
        replace hx158_1 := (HB.out.cell (bL w _ hx158_1)).trans hx158_1
        have HR158_1 := Aside0.mk hi158_1
        have HC158_1 := Aside0.mk hl158_1
        clear hi158_1 hl158_1
        replace p158 := eq_true p158
        replace q158 := eq_true q158
        refine start_ (n := 10) (S := fun w' => w'.cell? (ad157.add ((x5_1).toNat * 2)) = some (.string ((rd_T67 l0 x5_1).f0)) ∧ w'.cell? ⟨(ad157.add ((x5_1).toNat * 2)).block, (ad157.add ((x5_1).toNat * 2)).off + 1, none⟩ = some (.slice A157_1 ((rd_T67 l0 x5_1).f1).length c157_1) ∧ w'.cell? (ad158.add ((x5_1).toNat * 2)) = some (.string ((rd_T67 l1 x5_1).f0)) ∧ w'.cell? ⟨(ad158.add ((x5_1).toNat * 2)).block, (ad158.add ((x5_1).toNat * 2)).off + 1, none⟩ = some (.slice A158_1 ((rd_T67 l1 x5_1).f1).length c158_1)) (ds := []) #[fF,fF,fF,fF,fF,fF,fF,fF,fF,fF] (by kernel_rfl) rfl rfl ⟨((HB.out.cell (bL w _ hw157_0)).trans hw157_0), ((HB.out.cell (bL w _ hw157_1)).trans hw157_1), ((HB.out.cell (bL w _ hw158_0)).trans hw158_0), ((HB.out.cell (bL w _ hw158_1)).trans hw158_1)⟩ (fun hHeld => ?_); refine with_tabW laws_eqFaceS.tab6 laws_eqFaceS.bits6 (fun HT_ HW_ => ?_)
        generalize wr.drew = w9 at HB HR157_1 HR158_1 hx157_0 hx157_1 hx158_0 hx158_1 hHeld ⊢
        refine pu 0 17 HT_ ?_
        refine pu 1 18 HT_ ?_
        refine pu 2 19 HT_ ?_
        refine pu 4 21 HT_ ?_
        refine pu 5 22 HT_ ?_
        refine pu 6 23 HT_ ?_
        refine tk 3 20 HT_ HW_ hHeld ?_
        refine tk 7 24 HT_ HW_ hHeld ?_
        refine on 8 25 HT_ (fun K hK => ?_)
        refine goes_ Try.func76 (by kernel_rfl) rfl #[.agg #[.string ((rd_T67 l0 x5_1).f0), .slice A157_1 ((rd_T67 l0 x5_1).f1).length c157_1], .agg #[.string ((rd_T67 l1 x5_1).f0), .slice A158_1 ((rd_T67 l1 x5_1).f1).length c158_1]] (by rfl) rfl rfl (by (try simp only [List.map_toArray, List.map_cons, List.map_nil]); first | done | rfl | (simp only [List.length_drop, List.length_take]; rfl)) ?_
        with_reducible refine (laws_eqFace.calls k1 ((rd_T67 l0 x5_1).f0) _ _ ((rd_T67 l0 x5_1).f1) ((rd_T67 l1 x5_1).f0) _ _ ((rd_T67 l1 x5_1).f1) true _ ?side1 ?side2 ?side3 ?side4 A7.out).mono ?_
        (case side1 => repeat (first | exact (Kd.C_below HR157_1.out HB.out) | (with_reducible refine Kd.C_alloc ?_ _) | (with_reducible refine Kd.C_drewN ?_ _) | (with_reducible refine Kd.C_drew ?_)))
        (case side2 => exact HC157_1.out)
        (case side3 => repeat (first | exact (Kd.C_below HR158_1.out HB.out) | (with_reducible refine Kd.C_alloc ?_ _) | (with_reducible refine Kd.C_drewN ?_ _) | (with_reducible refine Kd.C_drew ?_)))
        (case side4 => exact HC158_1.out)
        rintro e w10 ⟨rfl, hb⟩
        refine ⟨_, rfl, ?_⟩
        have n0_ := sb hb
        clear HB
        have HB := n0_
        clear n0_
        (try clear hb)
        (try clear hb2)
        (try clear hk)
        (try clear hi)
        refine hK.out _ _ ⟨((HB.out.cell (bL w _ hw157_0)).trans hw157_0), ((HB.out.cell (bL w _ hw157_1)).trans hw157_1), ((HB.out.cell (bL w _ hw158_0)).trans hw158_0), ((HB.out.cell (bL w _ hw158_1)).trans hw158_1)⟩ (fun hHeld => ?_)
        clear hK K
        refine norm_ (a' := ?_) ?_ ?_
        rotate_left
        ·show Act.put _ (some 25) _ = _
         simp only [Act.put, List.setIfInBounds_toArray, List.set_cons_zero, List.set_cons_succ, i64_w, i32_w]
         rfl
        refine pu 9 26 HT_ ?_
        refine done_ (done_of HT_.out (by kernel_rfl)) ?_
        try go_wp2
        go_roundg k1
        case measure => have := HK1.out; omega
        case rel => exact ⟨(wrap64 (x5_1 + 1)), (by first | rfl | (simp; done) | (simp [*]; done)), H', ⟨by have := HK1.out; omega⟩, ⟨by repeat (first | (with_reducible first | exact HB.out | apply below_alloc | apply pw_below_drewN | apply below_drew1) | exact HB.out)⟩⟩
       ·replace c8 := Bool.eq_false_iff.mpr c8
        subst c8
        have H1 : (some false) = some r := by rw [if_neg (show ¬ (false = true) by decide)] at H; exact H
        clear H
        have H := H1
        clear H1
        obtain rfl := Option.some.inj H
        try go_wp2
        have n0_ := Aside0.mk (below_drew1 HB.out)
        clear HB
        have HB := n0_
        clear n0_
        have p157 : 0 ≤ (x5_1 : Int) := da
        have q157 : x5_1 < (l0.length : Int) := da
        obtain ⟨ad157, A157_1, c157_1, e157, hx157_0, hx157_1, hl157_1, hi157_1⟩ := at_T67 HR0.out x5_1 p157 q157
        have hw157_1 := hx157_1
        have hw157_0 := hx157_0
        cases e157
        replace hx157_0 := (HB.out.cell (bL w _ hx157_0)).trans hx157_0
        replace hx157_1 := (HB.out.cell (bL w _ hx157_1)).trans hx157_1
        have HR157_1 := Aside0.mk hi157_1
        have HC157_1 := Aside0.mk hl157_1
        clear hi157_1 hl157_1
        replace p157 := eq_true p157
        replace q157 := eq_true q157
        have p158 : 0 ≤ (x5_1 : Int) := da
        have q158 : x5_1 < (l1.length : Int) := da
        obtain ⟨ad158, A158_1, c158_1, e158, hx158_0, hx158_1, hl158_1, hi158_1⟩ := at_T67 HR1.out x5_1 p158 q158
        have hw158_1 := hx158_1
        have hw158_0 := hx158_0
        cases e158
        replace hx158_0 := (HB.out.cell (bL w _ hx158_0)).trans hx158_0
        replace hx158_1 := (HB.out.cell (bL w _ hx158_1)).trans hx158_1
        have HR158_1 := Aside0.mk hi158_1
        have HC158_1 := Aside0.mk hl158_1
        clear hi158_1 hl158_1
        replace p158 := eq_true p158
        replace q158 := eq_true q158
        refine start_ (n := 10) (S := fun w' => w'.cell? (ad157.add ((x5_1).toNat * 2)) = some (.string ((rd_T67 l0 x5_1).f0)) ∧ w'.cell? ⟨(ad157.add ((x5_1).toNat * 2)).block, (ad157.add ((x5_1).toNat * 2)).off + 1, none⟩ = some (.slice A157_1 ((rd_T67 l0 x5_1).f1).length c157_1) ∧ w'.cell? (ad158.add ((x5_1).toNat * 2)) = some (.string ((rd_T67 l1 x5_1).f0)) ∧ w'.cell? ⟨(ad158.add ((x5_1).toNat * 2)).block, (ad158.add ((x5_1).toNat * 2)).off + 1, none⟩ = some (.slice A158_1 ((rd_T67 l1 x5_1).f1).length c158_1)) (ds := []) #[fF,fF,fF,fF,fF,fF,fF,fF,fF,fF] (by kernel_rfl) rfl rfl ⟨((HB.out.cell (bL w _ hw157_0)).trans hw157_0), ((HB.out.cell (bL w _ hw157_1)).trans hw157_1), ((HB.out.cell (bL w _ hw158_0)).trans hw158_0), ((HB.out.cell (bL w _ hw158_1)).trans hw158_1)⟩ (fun hHeld => ?_); refine with_tabW laws_eqFaceS.tab6 laws_eqFaceS.bits6 (fun HT_ HW_ => ?_)
        generalize wr.drew = w11 at HB HR157_1 HR158_1 hx157_0 hx157_1 hx158_0 hx158_1 hHeld ⊢
        refine pu 0 17 HT_ ?_
        refine pu 1 18 HT_ ?_
        refine pu 2 19 HT_ ?_
        refine pu 4 21 HT_ ?_
        refine pu 5 22 HT_ ?_
        refine pu 6 23 HT_ ?_
        refine tk 3 20 HT_ HW_ hHeld ?_
        refine tk 7 24 HT_ HW_ hHeld ?_
        refine on 8 25 HT_ (fun K hK => ?_)
        refine goes_ Try.func76 (by kernel_rfl) rfl #[.agg #[.string ((rd_T67 l0 x5_1).f0), .slice A157_1 ((rd_T67 l0 x5_1).f1).length c157_1], .agg #[.string ((rd_T67 l1 x5_1).f0), .slice A158_1 ((rd_T67 l1 x5_1).f1).length c158_1]] (by rfl) rfl rfl (by (try simp only [List.map_toArray, List.map_cons, List.map_nil]); first | done | rfl | (simp only [List.length_drop, List.length_take]; rfl)) ?_
        with_reducible refine (laws_eqFace.calls k1 ((rd_T67 l0 x5_1).f0) _ _ ((rd_T67 l0 x5_1).f1) ((rd_T67 l1 x5_1).f0) _ _ ((rd_T67 l1 x5_1).f1) false _ ?side1 ?side2 ?side3 ?side4 A7.out).mono ?_
        (case side1 => repeat (first | exact (Kd.C_below HR157_1.out HB.out) | (with_reducible refine Kd.C_alloc ?_ _) | (with_reducible refine Kd.C_drewN ?_ _) | (with_reducible refine Kd.C_drew ?_)))
        (case side2 => exact HC157_1.out)
        (case side3 => repeat (first | exact (Kd.C_below HR158_1.out HB.out) | (with_reducible refine Kd.C_alloc ?_ _) | (with_reducible refine Kd.C_drewN ?_ _) | (with_reducible refine Kd.C_drew ?_)))
        (case side4 => exact HC158_1.out)
        rintro e w12 ⟨rfl, hb⟩
        refine ⟨_, rfl, ?_⟩
        have n0_ := sb hb
        clear HB
        have HB := n0_
        clear n0_
        (try clear hb)
        (try clear hb2)
        (try clear hk)
        (try clear hi)
        refine hK.out _ _ ⟨((HB.out.cell (bL w _ hw157_0)).trans hw157_0), ((HB.out.cell (bL w _ hw157_1)).trans hw157_1), ((HB.out.cell (bL w _ hw158_0)).trans hw158_0), ((HB.out.cell (bL w _ hw158_1)).trans hw158_1)⟩ (fun hHeld => ?_)
        clear hK K
        refine norm_ (a' := ?_) ?_ ?_
        rotate_left
        ·show Act.put _ (some 25) _ = _
         simp only [Act.put, List.setIfInBounds_toArray, List.set_cons_zero, List.set_cons_succ, i64_w, i32_w]
         rfl
        refine pu 9 26 HT_ ?_
        refine done_ (done_of HT_.out (by kernel_rfl)) ?_
        try go_wp2
        go_ret
        exact ⟨by first | rfl | (simp [errW_none, errW_some] <;> rfl) | (simp [*, errW_none, errW_some] <;> rfl), by repeat (first | (with_reducible first | exact HB.out | apply below_alloc | apply pw_below_drewN | apply below_drew1) | exact HB.out)⟩
      ·rw [if_neg c6] at H
       exact absurd H (by simp)
     ·rw [if_neg c5] at H
      exact absurd H (by simp)
    ·rw [if_neg c4] at H
     have c4b0 : decide (x5_1 < (l0.length : Int)) = false := decide_eq_false c4
     clear c4
     obtain rfl := Option.some.inj H
     go_wp2
     go_ret
     exact ⟨by first | rfl | (simp [errW_none, errW_some] <;> rfl) | (simp [*, errW_none, errW_some] <;> rfl), by repeat (first | (with_reducible first | exact HB.out | apply below_alloc | apply pw_below_drewN | apply below_drew1) | exact HB.out)⟩
 ·rw [if_neg c3] at H
  have c3b0 : ((l0.length : Int) == (l1.length : Int)) = false := beq_eq_false_iff_ne.mpr c3
  have c3b1 : ((l0.length : Int) != (l1.length : Int)) = true := bne_iff_ne.mpr c3
  have c3b2 : (l0.length == l1.length) = false := by first | simpa using c3 | (simp at c3 ⊢; omega)
  obtain rfl := Option.some.inj H
  go_enter Try.func45, Try.ntmps45
  go_wp2
  go_ret
  exact ⟨by first | rfl | (simp [errW_none, errW_some] <;> rfl) | (simp [*, errW_none, errW_some] <;> rfl), by repeat (first | (with_reducible first | exact HB.out | apply below_alloc | apply pw_below_drewN | apply below_drew1) | exact HB.out)⟩
def laws_eqDrawing.f (k : Nat) (a0_0 : Int) (a0_1 : Int) (l0_2 : List (S48)) (l0_3 : List (S67)) (a1_0 : Int) (a1_1 : Int) (l1_2 : List (S48)) (l1_3 : List (S67)) : Option (Bool) := if a0_0 = a1_0 then (if a0_1 = a1_1 then ((laws_eqPointS.f k l0_2 l1_2).bind fun t162 => (if t162 = true then ((laws_eqFaceS.f k l0_3 l1_3).bind fun t163 => (if t163 = true then (some true) else (some false))) else (some false))) else (some false)) else (some false)
theorem laws_eqDrawing.mono : ∀ a0 a1 a2 a3 a4 a5 a6 a7 k, LeO (laws_eqDrawing.f k a0 a1 a2 a3 a4 a5 a6 a7) (laws_eqDrawing.f (k + 1) a0 a1 a2 a3 a4 a5 a6 a7) := by
 intro a0 a1 a2 a3 a4 a5 a6 a7 k
 unfold laws_eqDrawing.f
 repeat' first
   | (with_reducible exact laws_eqFaceS.mono _ _ _)
   | (with_reducible exact laws_eqPointS.mono _ _ _)
   | (with_reducible exact LeO.refl _)
   | (with_reducible exact LeO.none _)
   | (with_reducible refine LeO.ite ?_ ?_)
   | (with_reducible refine LeO.bind ?_ (fun _ => ?_))
   | exact laws_eqFaceS.mono _ _ _
   | exact laws_eqPointS.mono _ _ _
   | exact LeO.none _
   | refine LeO.ite ?_ ?_
   | refine LeO.bind ?_ (fun _ => ?_)
set_option maxHeartbeats 8000000 in
set_option maxRecDepth 100000 in
theorem laws_eqDrawing.calls (k : Nat) (a0_0 : Int) (a0_1 : Int) (A0_2 : Option Addr) (c0_2 : Nat) (l0_2 : List (S48)) (A0_3 : Option Addr) (c0_3 : Nat) (l0_3 : List (S67)) (a1_0 : Int) (a1_1 : Int) (A1_2 : Option Addr) (c1_2 : Nat) (l1_2 : List (S48)) (A1_3 : Option Addr) (c1_3 : Nat) (l1_3 : List (S67)) (r : Bool) (w : World) (hr0_2 : Kd.C k48 w A0_2 l0_2.length l0_2) (hc0_2 : l0_2.length ≤ c0_2) (hr0_3 : Kd.C k67 w A0_3 l0_3.length l0_3) (hc0_3 : l0_3.length ≤ c0_3) (hr1_2 : Kd.C k48 w A1_2 l1_2.length l1_2) (hc1_2 : l1_2.length ≤ c1_2) (hr1_3 : Kd.C k67 w A1_3 l1_3.length l1_3) (hc1_3 : l1_3.length ≤ c1_3) (h : laws_eqDrawing.f k a0_0 a0_1 l0_2 l0_3 a1_0 a1_1 l1_2 l1_3 = some r) :
  Calls Try.prog 14 #[.agg #[.int .i64 a0_0, .int .i64 a0_1, .slice A0_2 l0_2.length c0_2, .slice A0_3 l0_3.length c0_3], .agg #[.int .i64 a1_0, .int .i64 a1_1, .slice A1_2 l1_2.length c1_2, .slice A1_3 l1_3.length c1_3]] w fun e w' => e = .returned (.bool r) ∧ Below w.heap.size w w' := by
 have hu31 := Try.underlying31
 have HR0_2 := Aside0.mk hr0_2
 have HC0_2 := Aside0.mk hc0_2
 clear hr0_2 hc0_2
 have HR0_3 := Aside0.mk hr0_3
 have HC0_3 := Aside0.mk hc0_3
 clear hr0_3 hc0_3
 have HR1_2 := Aside0.mk hr1_2
 have HC1_2 := Aside0.mk hc1_2
 clear hr1_2 hc1_2
 have HR1_3 := Aside0.mk hr1_3
 have HC1_3 := Aside0.mk hc1_3
 clear hr1_3 hc1_3
 have HB := Aside0.mk (Below.refl w.heap.size w)
 have H : (if a0_0 = a1_0 then (if a0_1 = a1_1 then ((laws_eqPointS.f k l0_2 l1_2).bind fun t162 => (if t162 = true then ((laws_eqFaceS.f k l0_3 l1_3).bind fun t163 => (if t163 = true then (some true) else (some false))) else (some false))) else (some false)) else (some false)) = some r := h
 clear h
 by_cases c3 : a0_0 = a1_0
 ·rw [if_pos c3] at H
  have c3b0 : (a0_0 == a1_0) = true := beq_iff_eq.mpr c3
  have c3b1 : (a0_0 != a1_0) = false := bne_eq_false_iff_eq.mpr c3
  clear c3
  by_cases c4 : a0_1 = a1_1
  ·rw [if_pos c4] at H
   have c4b0 : (a0_1 == a1_1) = true := beq_iff_eq.mpr c4
   have c4b1 : (a0_1 != a1_1) = false := bne_eq_false_iff_eq.mpr c4
   clear c4
   replace H := Option.bind_eq_some_iff.mp H
   obtain ⟨t162, A50, H⟩ := H
   replace H : (if t162 = true then ((laws_eqFaceS.f k l0_3 l1_3).bind fun t163 => (if t163 = true then (some true) else (some false))) else (some false)) = some r := H
   have A5 := Aside0.mk A50
   clear A50
   by_cases c6 : t162 = true
   ·subst c6
    have H1 : ((laws_eqFaceS.f k l0_3 l1_3).bind fun t163 => (if t163 = true then (some true) else (some false))) = some r := by rw [if_pos rfl] at H; exact H
    clear H
    have H := H1
    clear H1
    replace H := Option.bind_eq_some_iff.mp H
    obtain ⟨t163, A70, H⟩ := H
    replace H : (if t163 = true then (some true) else (some false)) = some r := H
    have A7 := Aside0.mk A70
    clear A70
    by_cases c8 : t163 = true
    ·subst c8
     have H1 : (some true) = some r := by rw [if_pos rfl] at H; exact H
     clear H
     have H := H1
     clear H1
     obtain rfl := Option.some.inj H
     go_enter Try.func14, Try.ntmps14
     go_wp2_with (first | ((with_reducible refine gate_dst (N := 2) rfl ?_); refine bx (cs := #[.int .i64 a0_0, .int .i64 a0_1, .slice A0_2 l0_2.length c0_2, .slice A0_3 l0_3.length c0_3]) (t := 31) ?_; intro gb160 hg w9 hbox hb; have n0_ := sb hb; have n1_ := Aside0.mk (hbox); have n2_ := zb hg; have n3_ := zb hg; clear HB; have HB := n0_; have BK160 := n1_; have GW160 := n2_; have GE160 := n3_; clear n0_ n1_ n2_ n3_; clear hb hbox hg) | ((with_reducible refine gate_dst (N := 3) rfl ?_); refine bx (cs := #[.int .i64 a1_0, .int .i64 a1_1, .slice A1_2 l1_2.length c1_2, .slice A1_3 l1_3.length c1_3]) (t := 31) ?_; intro gb161 hg w10 hbox hb; have n0_ := kb BK160 hb; have n1_ := sb hb; have n2_ := Aside0.mk (hbox); have n3_ := zb hg; have n4_ := zb hg; have n5_ := nl BK160 hg; have n6_ := ng BK160 hg; clear BK160; clear HB; have BK160 := n0_; have HB := n1_; have BK161 := n2_; have GW161 := n3_; have GE161 := n4_; have NB160_161 := n5_; have NB161_160 := n6_; clear n0_ n1_ n2_ n3_ n4_ n5_ n6_; clear hb hbox hg; have hnb11 := NB160_161.out; have hnc11 := NB161_160.out; have hcz12_0 := ck BK160 0; have hcz12_1 := ck BK160 1; have hcz12_2 := ck BK160 2; have hcz12_3 := ck BK160 3; have hfz12_0 := blk_frozen BK160.out 0; have hfz12_1 := blk_frozen BK160.out 1; have hfz12_2 := blk_frozen BK160.out 2; have hfz12_3 := blk_frozen BK160.out 3; have hcz13_0 := ck BK161 0; have hcz13_1 := ck BK161 1; have hcz13_2 := ck BK161 2; have hcz13_3 := ck BK161 3; have hfz13_0 := blk_frozen BK161.out 0; have hfz13_1 := blk_frozen BK161.out 1; have hfz13_2 := blk_frozen BK161.out 2; have hfz13_3 := blk_frozen BK161.out 3) | ((with_reducible refine gate_callee (f := 19) rfl ?_); refine goesL_ (some 19) rfl rfl Try.func19 (by kernel_rfl) rfl #[.slice A0_2 l0_2.length c0_2, .slice A1_2 l1_2.length c1_2] rfl (by (try simp only [List.map_toArray, List.map_cons, List.map_nil]); first | done | rfl | (simp only [List.length_drop, List.length_take]; rfl)) ?_; (with_reducible refine (laws_eqPointS.calls k _ _ l0_2 _ _ l1_2 true _ ?side1 ?side2 ?side3 ?side4 A5.out).mono ?_); (case side1 => repeat (first | exact (Kd.C_below HR0_2.out HB.out) | (with_reducible refine Kd.C_alloc ?_ _) | (with_reducible refine Kd.C_drewN ?_ _) | (with_reducible refine Kd.C_drew ?_))); (case side2 => exact HC0_2.out); (case side3 => repeat (first | exact (Kd.C_below HR1_2.out HB.out) | (with_reducible refine Kd.C_alloc ?_ _) | (with_reducible refine Kd.C_drewN ?_ _) | (with_reducible refine Kd.C_drew ?_))); (case side4 => exact HC1_2.out); rintro e w14 ⟨rfl, hb⟩; refine ⟨_, rfl, ?_⟩; have n0_ := kb BK160 hb; have n1_ := kb BK161 hb; have n2_ := sb hb; clear BK160; clear BK161; clear HB; have BK160 := n0_; have BK161 := n1_; have HB := n2_; clear n0_ n1_ n2_; (try clear hb); (try clear hb2); (try clear hk); (try clear hi); have hcz15_0 := ck BK160 0; have hcz15_1 := ck BK160 1; have hcz15_2 := ck BK160 2; have hcz15_3 := ck BK160 3; have hfz15_0 := blk_frozen BK160.out 0; have hfz15_1 := blk_frozen BK160.out 1; have hfz15_2 := blk_frozen BK160.out 2; have hfz15_3 := blk_frozen BK160.out 3; have hcz16_0 := ck BK161 0; have hcz16_1 := ck BK161 1; have hcz16_2 := ck BK161 2; have hcz16_3 := ck BK161 3; have hfz16_0 := blk_frozen BK161.out 0; have hfz16_1 := blk_frozen BK161.out 1; have hfz16_2 := blk_frozen BK161.out 2; have hfz16_3 := blk_frozen BK161.out 3) | ((with_reducible refine gate_callee (f := 45) rfl ?_); refine goesL_ (some 25) rfl rfl Try.func45 (by kernel_rfl) rfl #[.slice A0_3 l0_3.length c0_3, .slice A1_3 l1_3.length c1_3] rfl (by (try simp only [List.map_toArray, List.map_cons, List.map_nil]); first | done | rfl | (simp only [List.length_drop, List.length_take]; rfl)) ?_; (with_reducible refine (laws_eqFaceS.calls k _ _ l0_3 _ _ l1_3 true _ ?side1 ?side2 ?side3 ?side4 A7.out).mono ?_); (case side1 => repeat (first | exact (Kd.C_below HR0_3.out HB.out) | (with_reducible refine Kd.C_alloc ?_ _) | (with_reducible refine Kd.C_drewN ?_ _) | (with_reducible refine Kd.C_drew ?_))); (case side2 => exact HC0_3.out); (case side3 => repeat (first | exact (Kd.C_below HR1_3.out HB.out) | (with_reducible refine Kd.C_alloc ?_ _) | (with_reducible refine Kd.C_drewN ?_ _) | (with_reducible refine Kd.C_drew ?_))); (case side4 => exact HC1_3.out); rintro e w17 ⟨rfl, hb⟩; refine ⟨_, rfl, ?_⟩; have n0_ := kb BK160 hb; have n1_ := kb BK161 hb; have n2_ := sb hb; clear BK160; clear BK161; clear HB; have BK160 := n0_; have BK161 := n1_; have HB := n2_; clear n0_ n1_ n2_; (try clear hb); (try clear hb2); (try clear hk); (try clear hi)))
     go_ret
     exact ⟨by first | rfl | (simp [errW_none, errW_some] <;> rfl) | (simp [*, errW_none, errW_some] <;> rfl), by repeat (first | (with_reducible first | exact HB.out | apply below_alloc | apply pw_below_drewN | apply below_drew1 | refine below_set ?_ GE160.out | refine below_set ?_ GE161.out) | exact HB.out)⟩
    ·replace c8 := Bool.eq_false_iff.mpr c8
     subst c8
     have H1 : (some false) = some r := by rw [if_neg (show ¬ (false = true) by decide)] at H; exact H
     clear H
     have H := H1
     clear H1
     obtain rfl := Option.some.inj H
     go_enter Try.func14, Try.ntmps14
     go_wp2_with (first | ((with_reducible refine gate_dst (N := 2) rfl ?_); refine bx (cs := #[.int .i64 a0_0, .int .i64 a0_1, .slice A0_2 l0_2.length c0_2, .slice A0_3 l0_3.length c0_3]) (t := 31) ?_; intro gb160 hg w18 hbox hb; have n0_ := sb hb; have n1_ := Aside0.mk (hbox); have n2_ := zb hg; have n3_ := zb hg; clear HB; have HB := n0_; have BK160 := n1_; have GW160 := n2_; have GE160 := n3_; clear n0_ n1_ n2_ n3_; clear hb hbox hg) | ((with_reducible refine gate_dst (N := 3) rfl ?_); refine bx (cs := #[.int .i64 a1_0, .int .i64 a1_1, .slice A1_2 l1_2.length c1_2, .slice A1_3 l1_3.length c1_3]) (t := 31) ?_; intro gb161 hg w19 hbox hb; have n0_ := kb BK160 hb; have n1_ := sb hb; have n2_ := Aside0.mk (hbox); have n3_ := zb hg; have n4_ := zb hg; have n5_ := nl BK160 hg; have n6_ := ng BK160 hg; clear BK160; clear HB; have BK160 := n0_; have HB := n1_; have BK161 := n2_; have GW161 := n3_; have GE161 := n4_; have NB160_161 := n5_; have NB161_160 := n6_; clear n0_ n1_ n2_ n3_ n4_ n5_ n6_; clear hb hbox hg; have hnb20 := NB160_161.out; have hnc20 := NB161_160.out; have hcz21_0 := ck BK160 0; have hcz21_1 := ck BK160 1; have hcz21_2 := ck BK160 2; have hcz21_3 := ck BK160 3; have hfz21_0 := blk_frozen BK160.out 0; have hfz21_1 := blk_frozen BK160.out 1; have hfz21_2 := blk_frozen BK160.out 2; have hfz21_3 := blk_frozen BK160.out 3; have hcz22_0 := ck BK161 0; have hcz22_1 := ck BK161 1; have hcz22_2 := ck BK161 2; have hcz22_3 := ck BK161 3; have hfz22_0 := blk_frozen BK161.out 0; have hfz22_1 := blk_frozen BK161.out 1; have hfz22_2 := blk_frozen BK161.out 2; have hfz22_3 := blk_frozen BK161.out 3) | ((with_reducible refine gate_callee (f := 19) rfl ?_); refine goesL_ (some 19) rfl rfl Try.func19 (by kernel_rfl) rfl #[.slice A0_2 l0_2.length c0_2, .slice A1_2 l1_2.length c1_2] rfl (by (try simp only [List.map_toArray, List.map_cons, List.map_nil]); first | done | rfl | (simp only [List.length_drop, List.length_take]; rfl)) ?_; (with_reducible refine (laws_eqPointS.calls k _ _ l0_2 _ _ l1_2 true _ ?side1 ?side2 ?side3 ?side4 A5.out).mono ?_); (case side1 => repeat (first | exact (Kd.C_below HR0_2.out HB.out) | (with_reducible refine Kd.C_alloc ?_ _) | (with_reducible refine Kd.C_drewN ?_ _) | (with_reducible refine Kd.C_drew ?_))); (case side2 => exact HC0_2.out); (case side3 => repeat (first | exact (Kd.C_below HR1_2.out HB.out) | (with_reducible refine Kd.C_alloc ?_ _) | (with_reducible refine Kd.C_drewN ?_ _) | (with_reducible refine Kd.C_drew ?_))); (case side4 => exact HC1_2.out); rintro e w23 ⟨rfl, hb⟩; refine ⟨_, rfl, ?_⟩; have n0_ := kb BK160 hb; have n1_ := kb BK161 hb; have n2_ := sb hb; clear BK160; clear BK161; clear HB; have BK160 := n0_; have BK161 := n1_; have HB := n2_; clear n0_ n1_ n2_; (try clear hb); (try clear hb2); (try clear hk); (try clear hi); have hcz24_0 := ck BK160 0; have hcz24_1 := ck BK160 1; have hcz24_2 := ck BK160 2; have hcz24_3 := ck BK160 3; have hfz24_0 := blk_frozen BK160.out 0; have hfz24_1 := blk_frozen BK160.out 1; have hfz24_2 := blk_frozen BK160.out 2; have hfz24_3 := blk_frozen BK160.out 3; have hcz25_0 := ck BK161 0; have hcz25_1 := ck BK161 1; have hcz25_2 := ck BK161 2; have hcz25_3 := ck BK161 3; have hfz25_0 := blk_frozen BK161.out 0; have hfz25_1 := blk_frozen BK161.out 1; have hfz25_2 := blk_frozen BK161.out 2; have hfz25_3 := blk_frozen BK161.out 3) | ((with_reducible refine gate_callee (f := 45) rfl ?_); refine goesL_ (some 25) rfl rfl Try.func45 (by kernel_rfl) rfl #[.slice A0_3 l0_3.length c0_3, .slice A1_3 l1_3.length c1_3] rfl (by (try simp only [List.map_toArray, List.map_cons, List.map_nil]); first | done | rfl | (simp only [List.length_drop, List.length_take]; rfl)) ?_; (with_reducible refine (laws_eqFaceS.calls k _ _ l0_3 _ _ l1_3 false _ ?side1 ?side2 ?side3 ?side4 A7.out).mono ?_); (case side1 => repeat (first | exact (Kd.C_below HR0_3.out HB.out) | (with_reducible refine Kd.C_alloc ?_ _) | (with_reducible refine Kd.C_drewN ?_ _) | (with_reducible refine Kd.C_drew ?_))); (case side2 => exact HC0_3.out); (case side3 => repeat (first | exact (Kd.C_below HR1_3.out HB.out) | (with_reducible refine Kd.C_alloc ?_ _) | (with_reducible refine Kd.C_drewN ?_ _) | (with_reducible refine Kd.C_drew ?_))); (case side4 => exact HC1_3.out); rintro e w26 ⟨rfl, hb⟩; refine ⟨_, rfl, ?_⟩; have n0_ := kb BK160 hb; have n1_ := kb BK161 hb; have n2_ := sb hb; clear BK160; clear BK161; clear HB; have BK160 := n0_; have BK161 := n1_; have HB := n2_; clear n0_ n1_ n2_; (try clear hb); (try clear hb2); (try clear hk); (try clear hi)))
     go_ret
     exact ⟨by first | rfl | (simp [errW_none, errW_some] <;> rfl) | (simp [*, errW_none, errW_some] <;> rfl), by repeat (first | (with_reducible first | exact HB.out | apply below_alloc | apply pw_below_drewN | apply below_drew1 | refine below_set ?_ GE160.out | refine below_set ?_ GE161.out) | exact HB.out)⟩
   ·replace c6 := Bool.eq_false_iff.mpr c6
    subst c6
    have H1 : (some false) = some r := by rw [if_neg (show ¬ (false = true) by decide)] at H; exact H
    clear H
    have H := H1
    clear H1
    obtain rfl := Option.some.inj H
    go_enter Try.func14, Try.ntmps14
    go_wp2_with (first | ((with_reducible refine gate_dst (N := 2) rfl ?_); refine bx (cs := #[.int .i64 a0_0, .int .i64 a0_1, .slice A0_2 l0_2.length c0_2, .slice A0_3 l0_3.length c0_3]) (t := 31) ?_; intro gb160 hg w27 hbox hb; have n0_ := sb hb; have n1_ := Aside0.mk (hbox); have n2_ := zb hg; have n3_ := zb hg; clear HB; have HB := n0_; have BK160 := n1_; have GW160 := n2_; have GE160 := n3_; clear n0_ n1_ n2_ n3_; clear hb hbox hg) | ((with_reducible refine gate_dst (N := 3) rfl ?_); refine bx (cs := #[.int .i64 a1_0, .int .i64 a1_1, .slice A1_2 l1_2.length c1_2, .slice A1_3 l1_3.length c1_3]) (t := 31) ?_; intro gb161 hg w28 hbox hb; have n0_ := kb BK160 hb; have n1_ := sb hb; have n2_ := Aside0.mk (hbox); have n3_ := zb hg; have n4_ := zb hg; have n5_ := nl BK160 hg; have n6_ := ng BK160 hg; clear BK160; clear HB; have BK160 := n0_; have HB := n1_; have BK161 := n2_; have GW161 := n3_; have GE161 := n4_; have NB160_161 := n5_; have NB161_160 := n6_; clear n0_ n1_ n2_ n3_ n4_ n5_ n6_; clear hb hbox hg; have hnb29 := NB160_161.out; have hnc29 := NB161_160.out; have hcz30_0 := ck BK160 0; have hcz30_1 := ck BK160 1; have hcz30_2 := ck BK160 2; have hcz30_3 := ck BK160 3; have hfz30_0 := blk_frozen BK160.out 0; have hfz30_1 := blk_frozen BK160.out 1; have hfz30_2 := blk_frozen BK160.out 2; have hfz30_3 := blk_frozen BK160.out 3; have hcz31_0 := ck BK161 0; have hcz31_1 := ck BK161 1; have hcz31_2 := ck BK161 2; have hcz31_3 := ck BK161 3; have hfz31_0 := blk_frozen BK161.out 0; have hfz31_1 := blk_frozen BK161.out 1; have hfz31_2 := blk_frozen BK161.out 2; have hfz31_3 := blk_frozen BK161.out 3) | ((with_reducible refine gate_callee (f := 19) rfl ?_); refine goesL_ (some 19) rfl rfl Try.func19 (by kernel_rfl) rfl #[.slice A0_2 l0_2.length c0_2, .slice A1_2 l1_2.length c1_2] rfl (by (try simp only [List.map_toArray, List.map_cons, List.map_nil]); first | done | rfl | (simp only [List.length_drop, List.length_take]; rfl)) ?_; (with_reducible refine (laws_eqPointS.calls k _ _ l0_2 _ _ l1_2 false _ ?side1 ?side2 ?side3 ?side4 A5.out).mono ?_); (case side1 => repeat (first | exact (Kd.C_below HR0_2.out HB.out) | (with_reducible refine Kd.C_alloc ?_ _) | (with_reducible refine Kd.C_drewN ?_ _) | (with_reducible refine Kd.C_drew ?_))); (case side2 => exact HC0_2.out); (case side3 => repeat (first | exact (Kd.C_below HR1_2.out HB.out) | (with_reducible refine Kd.C_alloc ?_ _) | (with_reducible refine Kd.C_drewN ?_ _) | (with_reducible refine Kd.C_drew ?_))); (case side4 => exact HC1_2.out); rintro e w32 ⟨rfl, hb⟩; refine ⟨_, rfl, ?_⟩; have n0_ := kb BK160 hb; have n1_ := kb BK161 hb; have n2_ := sb hb; clear BK160; clear BK161; clear HB; have BK160 := n0_; have BK161 := n1_; have HB := n2_; clear n0_ n1_ n2_; (try clear hb); (try clear hb2); (try clear hk); (try clear hi)))
    go_ret
    exact ⟨by first | rfl | (simp [errW_none, errW_some] <;> rfl) | (simp [*, errW_none, errW_some] <;> rfl), by repeat (first | (with_reducible first | exact HB.out | apply below_alloc | apply pw_below_drewN | apply below_drew1 | refine below_set ?_ GE160.out | refine below_set ?_ GE161.out) | exact HB.out)⟩
  ·rw [if_neg c4] at H
   have c4b0 : (a0_1 == a1_1) = false := beq_eq_false_iff_ne.mpr c4
   have c4b1 : (a0_1 != a1_1) = true := bne_iff_ne.mpr c4
   obtain rfl := Option.some.inj H
   go_enter Try.func14, Try.ntmps14
   go_wp2_with (first | ((with_reducible refine gate_dst (N := 2) rfl ?_); refine bx (cs := #[.int .i64 a0_0, .int .i64 a0_1, .slice A0_2 l0_2.length c0_2, .slice A0_3 l0_3.length c0_3]) (t := 31) ?_; intro gb160 hg w33 hbox hb; have n0_ := sb hb; have n1_ := Aside0.mk (hbox); have n2_ := zb hg; have n3_ := zb hg; clear HB; have HB := n0_; have BK160 := n1_; have GW160 := n2_; have GE160 := n3_; clear n0_ n1_ n2_ n3_; clear hb hbox hg) | ((with_reducible refine gate_dst (N := 3) rfl ?_); refine bx (cs := #[.int .i64 a1_0, .int .i64 a1_1, .slice A1_2 l1_2.length c1_2, .slice A1_3 l1_3.length c1_3]) (t := 31) ?_; intro gb161 hg w34 hbox hb; have n0_ := kb BK160 hb; have n1_ := sb hb; have n2_ := Aside0.mk (hbox); have n3_ := zb hg; have n4_ := zb hg; have n5_ := nl BK160 hg; have n6_ := ng BK160 hg; clear BK160; clear HB; have BK160 := n0_; have HB := n1_; have BK161 := n2_; have GW161 := n3_; have GE161 := n4_; have NB160_161 := n5_; have NB161_160 := n6_; clear n0_ n1_ n2_ n3_ n4_ n5_ n6_; clear hb hbox hg; have hnb35 := NB160_161.out; have hnc35 := NB161_160.out; have hcz36_0 := ck BK160 0; have hcz36_1 := ck BK160 1; have hcz36_2 := ck BK160 2; have hcz36_3 := ck BK160 3; have hfz36_0 := blk_frozen BK160.out 0; have hfz36_1 := blk_frozen BK160.out 1; have hfz36_2 := blk_frozen BK160.out 2; have hfz36_3 := blk_frozen BK160.out 3; have hcz37_0 := ck BK161 0; have hcz37_1 := ck BK161 1; have hcz37_2 := ck BK161 2; have hcz37_3 := ck BK161 3; have hfz37_0 := blk_frozen BK161.out 0; have hfz37_1 := blk_frozen BK161.out 1; have hfz37_2 := blk_frozen BK161.out 2; have hfz37_3 := blk_frozen BK161.out 3))
   go_ret
   exact ⟨by first | rfl | (simp [errW_none, errW_some] <;> rfl) | (simp [*, errW_none, errW_some] <;> rfl), by repeat (first | (with_reducible first | exact HB.out | apply below_alloc | apply pw_below_drewN | apply below_drew1 | refine below_set ?_ GE160.out | refine below_set ?_ GE161.out) | exact HB.out)⟩
 ·rw [if_neg c3] at H
  have c3b0 : (a0_0 == a1_0) = false := beq_eq_false_iff_ne.mpr c3
  have c3b1 : (a0_0 != a1_0) = true := bne_iff_ne.mpr c3
  obtain rfl := Option.some.inj H
  go_enter Try.func14, Try.ntmps14
  go_wp2_with (first | ((with_reducible refine gate_dst (N := 2) rfl ?_); refine bx (cs := #[.int .i64 a0_0, .int .i64 a0_1, .slice A0_2 l0_2.length c0_2, .slice A0_3 l0_3.length c0_3]) (t := 31) ?_; intro gb160 hg w38 hbox hb; have n0_ := sb hb; have n1_ := Aside0.mk (hbox); have n2_ := zb hg; have n3_ := zb hg; clear HB; have HB := n0_; have BK160 := n1_; have GW160 := n2_; have GE160 := n3_; clear n0_ n1_ n2_ n3_; clear hb hbox hg) | ((with_reducible refine gate_dst (N := 3) rfl ?_); refine bx (cs := #[.int .i64 a1_0, .int .i64 a1_1, .slice A1_2 l1_2.length c1_2, .slice A1_3 l1_3.length c1_3]) (t := 31) ?_; intro gb161 hg w39 hbox hb; have n0_ := kb BK160 hb; have n1_ := sb hb; have n2_ := Aside0.mk (hbox); have n3_ := zb hg; have n4_ := zb hg; have n5_ := nl BK160 hg; have n6_ := ng BK160 hg; clear BK160; clear HB; have BK160 := n0_; have HB := n1_; have BK161 := n2_; have GW161 := n3_; have GE161 := n4_; have NB160_161 := n5_; have NB161_160 := n6_; clear n0_ n1_ n2_ n3_ n4_ n5_ n6_; clear hb hbox hg; have hnb40 := NB160_161.out; have hnc40 := NB161_160.out; have hcz41_0 := ck BK160 0; have hcz41_1 := ck BK160 1; have hcz41_2 := ck BK160 2; have hcz41_3 := ck BK160 3; have hfz41_0 := blk_frozen BK160.out 0; have hfz41_1 := blk_frozen BK160.out 1; have hfz41_2 := blk_frozen BK160.out 2; have hfz41_3 := blk_frozen BK160.out 3; have hcz42_0 := ck BK161 0; have hcz42_1 := ck BK161 1; have hcz42_2 := ck BK161 2; have hcz42_3 := ck BK161 3; have hfz42_0 := blk_frozen BK161.out 0; have hfz42_1 := blk_frozen BK161.out 1; have hfz42_2 := blk_frozen BK161.out 2; have hfz42_3 := blk_frozen BK161.out 3))
  go_ret
  exact ⟨by first | rfl | (simp [errW_none, errW_some] <;> rfl) | (simp [*, errW_none, errW_some] <;> rfl), by repeat (first | (with_reducible first | exact HB.out | apply below_alloc | apply pw_below_drewN | apply below_drew1 | refine below_set ?_ GE160.out | refine below_set ?_ GE161.out) | exact HB.out)⟩
def spec_l00In.f (a0 : Int) (a1 : Int) (a2 : Int) : Option (Bool) := if a0 ≥ a1 then (some (decide (a0 ≤ a2))) else (some false)
set_option maxHeartbeats 8000000 in
set_option maxRecDepth 100000 in
theorem spec_l00In.calls (a0 : Int) (a1 : Int) (a2 : Int) (r : Bool) (w : World) (h : spec_l00In.f a0 a1 a2 = some r) :
  Calls Try.prog 61 #[.int .i64 a0, .int .i64 a1, .int .i64 a2] w fun e w' => e = .returned (.bool r) ∧ Drawn0 w w' := by
 have H : (if a0 ≥ a1 then (some (decide (a0 ≤ a2))) else (some false)) = some r := h
 clear h
 by_cases c4 : a0 ≥ a1
 ·rw [if_pos c4] at H
  have c4b0 : decide (a1 ≤ a0) = true := decide_eq_true c4
  clear c4
  obtain rfl := Option.some.inj H
  go_enter Try.func61, Try.ntmps61
  go_wp2
  go_ret
  exact ⟨by first | rfl | (simp; done) | (simp [*]; done), by repeat (first | exact Drawn0.refl _ | apply Drawn0.step)⟩
 ·rw [if_neg c4] at H
  have c4b0 : decide (a1 ≤ a0) = false := decide_eq_false c4
  clear c4
  obtain rfl := Option.some.inj H
  go_enter Try.func61, Try.ntmps61
  go_wp2
  go_ret
  exact ⟨by first | rfl | (simp; done) | (simp [*]; done), by repeat (first | exact Drawn0.refl _ | apply Drawn0.step)⟩
def IsS31 (w0 W : World) (g : Nat) (f0 : Int) (f1 : Int) (f2 : List (S48)) (f3 : List (S67)) : Prop := ∃ A2 c2, ∃ A3 c3, W.heap[g]? = some (.cells #[.int .i64 f0, .int .i64 f1, .slice A2 f2.length c2, .slice A3 f3.length c3] 31 (0, 0)) ∧ w0.heap.size ≤ g ∧ Kd.C k48 w0 A2 f2.length f2 ∧ Kd.C k67 w0 A3 f3.length f3
theorem IsS31.grown {w0 W : World} {g : Nat} {f0 : Int} {f1 : Int} {f2 : List (S48)} {f3 : List (S67)} {W1 : World} {row : Option Nat} (h : IsS31 w0 W g f0 f1 f2 f3) (hw : W.grownBy W1 row) (hne : some g ≠ row) : IsS31 w0 W1 g f0 f1 f2 f3 := by
 obtain ⟨A2, c2, A3, c3, hb, hg, hr2, hr3⟩ := h
 exact ⟨A2, c2, A3, c3, blk_grown hb hw hne, hg, hr2, hr3⟩
theorem IsS31.own_neN {w0 W : World} {g : Nat} {f0 : Int} {f1 : Int} {f2 : List (S48)} {f3 : List (S67)} {α : Type} {d : Kd α} {e : Nat} {base : Nat} {ok : Nat → Prop} {v : Value} {xs : List α} (h : IsS31 w0 W g f0 f1 f2 f3) (ho : Kd.N d e W base ok v xs) (ht : e ≠ 31) : some g ≠ v.ownBlock := by
 obtain ⟨A2, c2, A3, c3, hb, hg, hr2, hr3⟩ := h
 exact Kd.N_ne ho hb ht
theorem IsS31.fresh {w0 W : World} {g : Nat} {f0 : Int} {f1 : Int} {f2 : List (S48)} {f3 : List (S67)} (h : IsS31 w0 W g f0 f1 f2 f3) : ∀ k, W.heap.size ≤ k → k ≠ g := by
 obtain ⟨A2, c2, A3, c3, hb, hg, hr2, hr3⟩ := h
 exact Kd.freshB hb
theorem IsS31.kept {w0 W : World} {g : Nat} {f0 : Int} {f1 : Int} {f2 : List (S48)} {f3 : List (S67)} {W1 : World} {S : Nat → Prop} (h : IsS31 w0 W g f0 f1 f2 f3) (hk : Kept W W1 S) (hne : ¬ S g) : IsS31 w0 W1 g f0 f1 f2 f3 := by
 obtain ⟨A2, c2, A3, c3, hb, hg, hr2, hr3⟩ := h
 exact ⟨A2, c2, A3, c3, blk_kept hb hk hne, hg, hr2, hr3⟩
theorem IsS31.below {w0 W : World} {g : Nat} {f0 : Int} {f1 : Int} {f2 : List (S48)} {f3 : List (S67)} {W1 : World} (h : IsS31 w0 W g f0 f1 f2 f3) (hw : Below W.heap.size W W1) : IsS31 w0 W1 g f0 f1 f2 f3 := h.grown (grown_of_below hw none) (by simp)
theorem IsS31.alloc {w0 W : World} {g : Nat} {f0 : Int} {f1 : Int} {f2 : List (S48)} {f3 : List (S67)} (h : IsS31 w0 W g f0 f1 f2 f3) (o : Obj) : IsS31 w0 (W.alloc o) g f0 f1 f2 f3 := h.below (below_alloc (Below.refl _ _) o)
theorem IsS31.drewN {w0 W : World} {g : Nat} {f0 : Int} {f1 : Int} {f2 : List (S48)} {f3 : List (S67)} (h : IsS31 w0 W g f0 f1 f2 f3) (m : Nat) : IsS31 w0 (W.drewN m) g f0 f1 f2 f3 := h
theorem IsS31.drew {w0 W : World} {g : Nat} {f0 : Int} {f1 : Int} {f2 : List (S48)} {f3 : List (S67)} (h : IsS31 w0 W g f0 f1 f2 f3) : IsS31 w0 W.drew g f0 f1 f2 f3 := h
theorem IsS31.at_ {w0 W : World} {g : Nat} {f0 : Int} {f1 : Int} {f2 : List (S48)} {f3 : List (S67)} {w' : World} {m : Nat} (hq : W.drewN m = w') (h : IsS31 w0 W g f0 f1 f2 f3) : IsS31 w0 w' g f0 f1 f2 f3 := by subst hq; exact IsS31.drewN h m
theorem IsS31.apart {w0 W : World} {g : Nat} {f0 : Int} {f1 : Int} {f2 : List (S48)} {f3 : List (S67)} {α : Type} {d : Kd α} {e : Nat} {base : Nat} {ok : Nat → Prop} {v : Value} {xs : List α} (h : IsS31 w0 W g f0 f1 f2 f3) (ho : d.R e W base ok v xs) (ht : ∀ q, q ∈ e :: d.E → q ≠ 31) : d.R e W base (fun k => ok k ∧ k ≠ g) v xs := by
 obtain ⟨A2, c2, A3, c3, hb, hg, hr2, hr3⟩ := h
 exact Kd.R_types ho hb ht
theorem IsS31.own_ne {w0 W : World} {g : Nat} {f0 : Int} {f1 : Int} {f2 : List (S48)} {f3 : List (S67)} {α : Type} {d : Kd α} {e : Nat} {base : Nat} {ok : Nat → Prop} {v : Value} {xs : List α} (h : IsS31 w0 W g f0 f1 f2 f3) (ho : d.R e W base ok v xs) (ht : e ≠ 31) : some g ≠ v.ownBlock := by
 obtain ⟨A2, c2, A3, c3, hb, hg, hr2, hr3⟩ := h
 exact Kd.R_ne ho hb ht
theorem IsS31.apartQ {w0 W : World} {g : Nat} {f0 : Int} {f1 : Int} {f2 : List (S48)} {f3 : List (S67)} {α : Type} {d : Kd α} {e : Nat} {base : Nat} {ok : Nat → Prop} {v : Value} {xs : List α} (h : IsS31 w0 W g f0 f1 f2 f3) (ho : d.Q e W base ok v xs) (ht : ∀ q, q ∈ e :: d.E → q ≠ 31) : d.Q e W base (fun k => ok k ∧ k ≠ g) v xs := by
 obtain ⟨A2, c2, A3, c3, hb, hg, hr2, hr3⟩ := h
 exact Kd.Q_types ho hb ht
theorem IsS31.own_neQ {w0 W : World} {g : Nat} {f0 : Int} {f1 : Int} {f2 : List (S48)} {f3 : List (S67)} {α : Type} {d : Kd α} {e : Nat} {base : Nat} {ok : Nat → Prop} {v : Value} {xs : List α} (h : IsS31 w0 W g f0 f1 f2 f3) (ho : d.Q e W base ok v xs) (ht : e ≠ 31) : some g ≠ v.ownBlock := by
 obtain ⟨A2, c2, A3, c3, hb, hg, hr2, hr3⟩ := h
 exact Kd.Q_ne ho hb ht
theorem IsS31.apartS {w0 W : World} {g : Nat} {f0 : Int} {f1 : Int} {f2 : List (S48)} {f3 : List (S67)} {α : Type} {d : Kd α} {e : Nat} {base : Nat} {ok : Nat → Prop} {v : Value} {xs : List α} (h : IsS31 w0 W g f0 f1 f2 f3) (ho : d.S e W base ok v xs) (ht : ∀ q, q ∈ e :: d.E → q ≠ 31) : d.S e W base (fun k => ok k ∧ k ≠ g) v xs := by
 obtain ⟨A2, c2, A3, c3, hb, hg, hr2, hr3⟩ := h
 exact Kd.S_types ho hb ht
theorem IsS31.own_neS {w0 W : World} {g : Nat} {f0 : Int} {f1 : Int} {f2 : List (S48)} {f3 : List (S67)} {α : Type} {d : Kd α} {e : Nat} {base : Nat} {ok : Nat → Prop} {v : Value} {xs : List α} (h : IsS31 w0 W g f0 f1 f2 f3) (ho : d.S e W base ok v xs) (ht : e ≠ 31) : some g ≠ v.ownBlock := by
 obtain ⟨A2, c2, A3, c3, hb, hg, hr2, hr3⟩ := h
 exact Kd.S_ne ho hb ht
theorem IsS31.lt {w0 W : World} {g : Nat} {f0 : Int} {f1 : Int} {f2 : List (S48)} {f3 : List (S67)} (h : IsS31 w0 W g f0 f1 f2 f3) : g < W.heap.size := by
 obtain ⟨A2, c2, A3, c3, hb, hg, hr2, hr3⟩ := h
 exact blk_lt hb
theorem IsS31.ge {w0 W : World} {g : Nat} {f0 : Int} {f1 : Int} {f2 : List (S48)} {f3 : List (S67)} (h : IsS31 w0 W g f0 f1 f2 f3) : w0.heap.size ≤ g := by
 obtain ⟨A2, c2, A3, c3, hb, hg, hr2, hr3⟩ := h
 exact hg
theorem IsS31.ne_blk {w0 W : World} {g : Nat} {f0 : Int} {f1 : Int} {f2 : List (S48)} {f3 : List (S67)} {a : Nat} {cs : Array Value} {t : TypeId} {fr : Nat × Nat} (h : IsS31 w0 W g f0 f1 f2 f3) (hb2 : W.heap[a]? = some (.cells cs t fr)) (ht : t ≠ 31) : g ≠ a := by
 obtain ⟨A2, c2, A3, c3, hb, hg, hr2, hr3⟩ := h
 rintro rfl
 rw [hb] at hb2
 injection hb2 with hb2
 injection hb2 with _ ht2
 exact ht ht2.symm
theorem IsS31.far {w0 W : World} {g : Nat} {f0 : Int} {f1 : Int} {f2 : List (S48)} {f3 : List (S67)} {p : Addr} (h : IsS31 w0 W g f0 f1 f2 f3) (hne : g ≠ p.block) (u : Value) : IsS31 w0 (W.setCell p u) g f0 f1 f2 f3 := by
 obtain ⟨A2, c2, A3, c3, hb, hg, hr2, hr3⟩ := h
 exact ⟨A2, c2, A3, c3, blk_far hb hne u, hg, hr2, hr3⟩
theorem cellS31_0 {W : World} {g : Nat} {A2 : Option Addr} {c2 : Nat} {A3 : Option Addr} {c3 : Nat} {f0 : Int} {f1 : Int} {f2 : List (S48)} {f3 : List (S67)} (h : W.heap[g]? = some (.cells #[.int .i64 f0, .int .i64 f1, .slice A2 f2.length c2, .slice A3 f3.length c3] 31 (0, 0))) : W.cell? ⟨g, 0, none⟩ = some (.int .i64 f0) := (blk_cell h 0).trans rfl
theorem IsS31.set_0 {w0 W : World} {g : Nat} {f0 : Int} {f1 : Int} {f2 : List (S48)} {f3 : List (S67)} (h : IsS31 w0 W g f0 f1 f2 f3) (x : Int) : IsS31 w0 (W.setCell ⟨g, 0, none⟩ (.int .i64 x)) g x f1 f2 f3 := by
 obtain ⟨A2, c2, A3, c3, hb, hg, hr2, hr3⟩ := h
 exact ⟨A2, c2, A3, c3, by simpa using blk_set hb 0 (.int .i64 x), hg, hr2, hr3⟩
theorem cellS31_1 {W : World} {g : Nat} {A2 : Option Addr} {c2 : Nat} {A3 : Option Addr} {c3 : Nat} {f0 : Int} {f1 : Int} {f2 : List (S48)} {f3 : List (S67)} (h : W.heap[g]? = some (.cells #[.int .i64 f0, .int .i64 f1, .slice A2 f2.length c2, .slice A3 f3.length c3] 31 (0, 0))) : W.cell? ⟨g, 1, none⟩ = some (.int .i64 f1) := (blk_cell h 1).trans rfl
theorem IsS31.set_1 {w0 W : World} {g : Nat} {f0 : Int} {f1 : Int} {f2 : List (S48)} {f3 : List (S67)} (h : IsS31 w0 W g f0 f1 f2 f3) (x : Int) : IsS31 w0 (W.setCell ⟨g, 1, none⟩ (.int .i64 x)) g f0 x f2 f3 := by
 obtain ⟨A2, c2, A3, c3, hb, hg, hr2, hr3⟩ := h
 exact ⟨A2, c2, A3, c3, by simpa using blk_set hb 1 (.int .i64 x), hg, hr2, hr3⟩
theorem cellS31_2 {W : World} {g : Nat} {A2 : Option Addr} {c2 : Nat} {A3 : Option Addr} {c3 : Nat} {f0 : Int} {f1 : Int} {f2 : List (S48)} {f3 : List (S67)} (h : W.heap[g]? = some (.cells #[.int .i64 f0, .int .i64 f1, .slice A2 f2.length c2, .slice A3 f3.length c3] 31 (0, 0))) : W.cell? ⟨g, 2, none⟩ = some (.slice A2 f2.length c2) := (blk_cell h 2).trans rfl
theorem cellS31_3 {W : World} {g : Nat} {A2 : Option Addr} {c2 : Nat} {A3 : Option Addr} {c3 : Nat} {f0 : Int} {f1 : Int} {f2 : List (S48)} {f3 : List (S67)} (h : W.heap[g]? = some (.cells #[.int .i64 f0, .int .i64 f1, .slice A2 f2.length c2, .slice A3 f3.length c3] 31 (0, 0))) : W.cell? ⟨g, 3, none⟩ = some (.slice A3 f3.length c3) := (blk_cell h 3).trans rfl
theorem IsS31.new (w0 W : World) (A2 : Option Addr) (c2 : Nat) (A3 : Option Addr) (c3 : Nat) (f0 : Int) (f1 : Int) (f2 : List (S48)) (f3 : List (S67)) (hB : Below w0.heap.size w0 W) (hr2 : Kd.C k48 w0 A2 f2.length f2) (hr3 : Kd.C k67 w0 A3 f3.length f3) : IsS31 w0 (W.alloc (.cells #[.int .i64 f0, .int .i64 f1, .slice A2 f2.length c2, .slice A3 f3.length c3] 31)) W.heap.size f0 f1 f2 f3 := ⟨A2, c2, A3, c3, by simpa using heap_alloc_new W _, hB.size, hr2, hr3⟩
mutual
def spec_l05Points.l0 : Nat → Int → Int → Int → List (S48) → List (S67) → Option (Bool × Int × Int)
 | 0, _, _, _, _, _ => none
 | k + 1, x3, x1000, x1001, x1002, x1003 => if x3 < (x1002.length : Int) then (if 0 ≤ x3 then ((spec_l00In.f ((rd_T48 x1002 x3).f0) 0 x1000).bind fun t165 => (if t165 = true then ((spec_l00In.f ((rd_T48 x1002 x3).f1) 0 x1001).bind fun t167 => (spec_l05Points.j1 k x3 (!t167) x1000 x1001 x1002 x1003)) else (spec_l05Points.j1 k x3 true x1000 x1001 x1002 x1003))) else (none)) else (some (true, x1000, x1001))
def spec_l05Points.j1 : Nat → Int → Bool → Int → Int → List (S48) → List (S67) → Option (Bool × Int × Int)
 | 0, _, _, _, _, _, _ => none
 | k + 1, x3, x49, x1000, x1001, x1002, x1003 => if x49 = true then (some (false, x1000, x1001)) else (spec_l05Points.l1 k x3 0 x1000 x1001 x1002 x1003)
def spec_l05Points.l1 : Nat → Int → Int → Int → Int → List (S48) → List (S67) → Option (Bool × Int × Int)
 | 0, _, _, _, _, _, _ => none
 | k + 1, x3, x4, x1000, x1001, x1002, x1003 => if x4 < x3 then (if 0 ≤ x3 then (if x3 < (x1002.length : Int) then (if 0 ≤ x4 then (if x4 < (x1002.length : Int) then (if (((rd_T48 x1002 x3).f0) == ((rd_T48 x1002 x4).f0) && (((rd_T48 x1002 x3).f1) == ((rd_T48 x1002 x4).f1))) = true then (some (false, x1000, x1001)) else (spec_l05Points.l1 k x3 (wrap64 (x4 + 1)) x1000 x1001 x1002 x1003)) else (none)) else (none)) else (none)) else (none)) else (spec_l05Points.l0 k (wrap64 (x3 + 1)) x1000 x1001 x1002 x1003)
end
def spec_l05Points.f (k : Nat) (s0_0 : Int) (s0_1 : Int) (s0_2 : List (S48)) (s0_3 : List (S67)) : Option (Bool × Int × Int) := if (s0_2.length : Int) > 48 then (some (false, s0_0, s0_1)) else (spec_l05Points.l0 k 0 s0_0 s0_1 s0_2 s0_3)
theorem spec_l05Points.mono_l : ∀ k, (∀ y0 y1 y2 y3 y4, LeO (spec_l05Points.l0 k y0 y1 y2 y3 y4) (spec_l05Points.l0 (k + 1) y0 y1 y2 y3 y4)) ∧ (∀ y0 y1 y2 y3 y4 y5, LeO (spec_l05Points.j1 k y0 y1 y2 y3 y4 y5) (spec_l05Points.j1 (k + 1) y0 y1 y2 y3 y4 y5)) ∧ (∀ y0 y1 y2 y3 y4 y5, LeO (spec_l05Points.l1 k y0 y1 y2 y3 y4 y5) (spec_l05Points.l1 (k + 1) y0 y1 y2 y3 y4 y5))
 | 0 => ⟨fun _ _ _ _ _ r h => by simp [spec_l05Points.l0] at h, fun _ _ _ _ _ _ r h => by simp [spec_l05Points.j1] at h, fun _ _ _ _ _ _ r h => by simp [spec_l05Points.l1] at h⟩
 | k + 1 => by
  obtain ⟨ih0, ih1, ih2⟩ := spec_l05Points.mono_l k
  refine ⟨?_, ?_, ?_⟩
  ·intro y0 y1 y2 y3 y4
   unfold spec_l05Points.l0
   repeat' first
   | (with_reducible exact ih0 _ _ _ _ _)
   | (with_reducible exact ih1 _ _ _ _ _ _)
   | (with_reducible exact ih2 _ _ _ _ _ _)
   | (with_reducible exact LeO.refl _)
   | (with_reducible exact LeO.none _)
   | (with_reducible refine LeO.ite ?_ ?_)
   | (with_reducible refine LeO.bind ?_ (fun _ => ?_))
   | exact ih0 _ _ _ _ _
   | exact ih1 _ _ _ _ _ _
   | exact ih2 _ _ _ _ _ _
   | exact LeO.none _
   | refine LeO.ite ?_ ?_
   | refine LeO.bind ?_ (fun _ => ?_)
  ·intro y0 y1 y2 y3 y4 y5
   unfold spec_l05Points.j1
   repeat' first
   | (with_reducible exact ih0 _ _ _ _ _)
   | (with_reducible exact ih1 _ _ _ _ _ _)
   | (with_reducible exact ih2 _ _ _ _ _ _)
   | (with_reducible exact LeO.refl _)
   | (with_reducible exact LeO.none _)
   | (with_reducible refine LeO.ite ?_ ?_)
   | (with_reducible refine LeO.bind ?_ (fun _ => ?_))
   | exact ih0 _ _ _ _ _
   | exact ih1 _ _ _ _ _ _
   | exact ih2 _ _ _ _ _ _
   | exact LeO.none _
   | refine LeO.ite ?_ ?_
   | refine LeO.bind ?_ (fun _ => ?_)
  ·intro y0 y1 y2 y3 y4 y5
   unfold spec_l05Points.l1
   repeat' first
   | (with_reducible exact ih0 _ _ _ _ _)
   | (with_reducible exact ih1 _ _ _ _ _ _)
   | (with_reducible exact ih2 _ _ _ _ _ _)
   | (with_reducible exact LeO.refl _)
   | (with_reducible exact LeO.none _)
   | (with_reducible refine LeO.ite ?_ ?_)
   | (with_reducible refine LeO.bind ?_ (fun _ => ?_))
   | exact ih0 _ _ _ _ _
   | exact ih1 _ _ _ _ _ _
   | exact ih2 _ _ _ _ _ _
   | exact LeO.none _
   | refine LeO.ite ?_ ?_
   | refine LeO.bind ?_ (fun _ => ?_)
theorem spec_l05Points.mono : ∀ a0 a1 a2 a3 k, LeO (spec_l05Points.f k a0 a1 a2 a3) (spec_l05Points.f (k + 1) a0 a1 a2 a3) := by
 intro a0 a1 a2 a3 k
 obtain ⟨ih0, ih1, ih2⟩ := spec_l05Points.mono_l k
 unfold spec_l05Points.f
 repeat' first
   | (with_reducible exact ih0 _ _ _ _ _)
   | (with_reducible exact ih1 _ _ _ _ _ _)
   | (with_reducible exact ih2 _ _ _ _ _ _)
   | (with_reducible exact LeO.refl _)
   | (with_reducible exact LeO.none _)
   | (with_reducible refine LeO.ite ?_ ?_)
   | (with_reducible refine LeO.bind ?_ (fun _ => ?_))
   | exact ih0 _ _ _ _ _
   | exact ih1 _ _ _ _ _ _
   | exact ih2 _ _ _ _ _ _
   | exact LeO.none _
   | refine LeO.ite ?_ ?_
   | refine LeO.bind ?_ (fun _ => ?_)
set_option maxHeartbeats 8000000 in
set_option maxRecDepth 100000 in
theorem spec_l05Points.calls (k : Nat) (g : Nat) (s0_0 : Int) (s0_1 : Int) (s0_2 : List (S48)) (s0_3 : List (S67)) (r1 : Bool) (r2 : Int) (r3 : Int) (w0 w : World) (hI : IsS31 w0 w g s0_0 s0_1 s0_2 s0_3) (hB : Below w0.heap.size w0 w) (h : spec_l05Points.f k s0_0 s0_1 s0_2 s0_3 = some (r1, r2, r3)) :
  Calls Try.prog 66 #[.pointer (some ⟨g, 0, none⟩)] w fun e w' => e = .returned (.bool r1) ∧ IsS31 w0 w' g r2 r3 s0_2 s0_3 ∧ Below w0.heap.size w0 w' ∧ KeepBut w w' g none := by
 have hu48 := Try.underlying48
 have HI0 := Aside0.mk hI
 have HK := Aside0.mk (KeepBut.refl w g none)
 have HL := Aside0.mk hB.size
 clear hI
 have HW0 := Aside0.mk hB.size
 have HB := Aside0.mk hB
 clear hB
 have H : (if (s0_2.length : Int) > 48 then (some (false, s0_0, s0_1)) else (spec_l05Points.l0 k 0 s0_0 s0_1 s0_2 s0_3)) = some (r1, r2, r3) := h
 clear h
 obtain ⟨A2, c2, A3, c3, hblk, hge, hr2, hr3⟩ := HI0.out
 have q0 : w.cell? ⟨g, 0, none⟩ = some (.int .i64 s0_0) := cellS31_0 hblk
 have q1 : w.cell? ⟨g, 1, none⟩ = some (.int .i64 s0_1) := cellS31_1 hblk
 have q2 : w.cell? ⟨g, 2, none⟩ = some (.slice A2 s0_2.length c2) := cellS31_2 hblk
 have pts : ∀ i : Int, 0 ≤ i → i < (s0_2.length : Int) → ∃ ad, A2 = some ad ∧ w.cell? (ad.add (i.toNat * 2)) = some (.int .i64 (rd_T48 s0_2 i).f0) ∧ w.cell? ⟨(ad.add (i.toNat * 2)).block, (ad.add (i.toNat * 2)).off + 1, none⟩ = some (.int .i64 (rd_T48 s0_2 i).f1) := by
  intro i h0 h1
  obtain ⟨ad, e, x0, x1⟩ := at_T48 hr2 i h0 h1
  exact ⟨ad, e, (HB.out.cell (bL w0 _ x0)).trans x0, (HB.out.cell (bL w0 _ x1)).trans x1⟩
 have Hpts_ := Aside0.mk pts
 have Q0 := Aside0.mk q0
 have Q1 := Aside0.mk q1
 have Q2 := Aside0.mk q2
 clear hblk hge hr2 hr3 pts
 by_cases c1 : (s0_2.length : Int) > 48
 ·rw [if_pos c1] at H
  have c1b : decide (48 < (s0_2.length : Int)) = true := decide_eq_true c1
  clear c1
  simp only [Option.some.injEq, Prod.mk.injEq] at H
  obtain ⟨rfl, rfl, rfl⟩ := H
  go_enter Try.func66, Try.ntmps66
  go_wp2
  go_ret
  exact ⟨(by first | rfl | (simp; done) | (simp [*]; done)), (by repeat (first | exact HI0.out | apply IsS31.drewN | apply IsS31.drew)), (by repeat (first | exact HB.out | apply pw_below_drewN | apply below_drew1)), (by repeat (first | exact HK.out | apply keep_drewN | apply keep_drew))⟩
 ·rw [if_neg c1] at H
  have c1b : decide (48 < (s0_2.length : Int)) = false := decide_eq_false c1
  clear c1
  have H' := Aside0.mk H
  clear H
  go_enter Try.func66, Try.ntmps66
  go_wp2
  go_loopg [3] k (fun kq v3 w' => ∃ (x3 : Int), v3 = .int .i64 x3 ∧ Aside0 (spec_l05Points.l0 kq x3 s0_0 s0_1 s0_2 s0_3 = some (r1, r2, r3)) ∧ Aside0 (kq ≤ k) ∧ Aside0 (Drawn0 w w'))
  case atStart => exact ⟨0, rfl, H', ⟨Nat.le_refl _⟩, ⟨by repeat (first | exact Drawn0.refl _ | apply Drawn0.step)⟩⟩
  case round =>
   clear H' q0 q1 q2
   obtain ⟨x3, rfl, HA, HK1, HD⟩ := hrel
   cases gk with
   | zero => exact absurd HA.out (by simp [spec_l05Points.l0])
   | succ k1 =>
    have H := HA.out
    clear HA
    simp only [spec_l05Points.l0] at H
    have hD := HD.out
    obtain ⟨m1, hm1⟩ := hD.out
    have q0 : wr.cell? ⟨g, 0, none⟩ = some (.int .i64 s0_0) := by rw [hm1]; exact Q0.out
    have q1 : wr.cell? ⟨g, 1, none⟩ = some (.int .i64 s0_1) := by rw [hm1]; exact Q1.out
    have q2 : wr.cell? ⟨g, 2, none⟩ = some (.slice A2 s0_2.length c2) := by rw [hm1]; exact Q2.out
    clear hD
    have HM := Aside0.mk hm1
    clear hm1
    by_cases c2_ : x3 < (s0_2.length : Int)
    ·rw [if_pos c2_] at H
     have c2b : decide (x3 < (s0_2.length : Int)) = true := decide_eq_true c2_
     by_cases c3_ : 0 ≤ x3
     ·rw [if_pos c3_] at H
      have c3b : decide (0 ≤ x3) = true := decide_eq_true c3_
      replace H := Option.bind_eq_some_iff.mp H
      obtain ⟨t1, A10, H⟩ := H
      have A1 := Aside0.mk A10
      clear A10
      obtain ⟨ad, ea, y0_, y1_⟩ := Hpts_.out x3 c3_ c2_
      have y0 : wr.cell? (ad.add (x3.toNat * 2)) = some (.int .i64 (rd_T48 s0_2 x3).f0) := by rw [HM.out]; exact y0_
      have y1 : wr.cell? ⟨(ad.add (x3.toNat * 2)).block, (ad.add (x3.toNat * 2)).off + 1, none⟩ = some (.int .i64 (rd_T48 s0_2 x3).f1) := by rw [HM.out]; exact y1_
      clear y0_ y1_
      rw [ea] at q2
      have EA := Aside0.mk ea
      clear ea
      cases t1 with
      | true =>
       replace H := (show (((spec_l00In.f ((rd_T48 s0_2 x3).f1) 0 s0_1).bind fun t167 => (spec_l05Points.j1 k1 x3 (!t167) s0_0 s0_1 s0_2 s0_3))) = some (r1, r2, r3) from by first | exact H | simpa using H)
       replace H := Option.bind_eq_some_iff.mp H
       obtain ⟨t2, A20, H⟩ := H
       have A2_ := Aside0.mk A20
       clear A20
       cases k1 with
       | zero => exact absurd H (by simp [spec_l05Points.j1])
       | succ k2 =>
       simp only [spec_l05Points.j1] at H
       cases t2 with
       | false =>
        simp only [Bool.not_false, if_true, Option.some.injEq, Prod.mk.injEq] at H
        obtain ⟨rfl, rfl, rfl⟩ := H
        go_wp2
        go_quiet (first | (with_reducible exact Calls.quiet_of ((spec_l00In.calls _ _ _ _ _ A1.out).mono fun e w' h => ⟨h.1, h.2.out⟩)) | (with_reducible exact Calls.quiet_of ((spec_l00In.calls _ _ _ _ _ A2_.out).mono fun e w' h => ⟨h.1, h.2.out⟩)))
        go_wp2
        go_ret
        rw [HM.out]; exact ⟨(by first | rfl | (simp; done) | (simp [*]; done)), (by repeat (first | exact HI0.out | apply IsS31.drewN | apply IsS31.drew)), (by repeat (first | exact HB.out | apply pw_below_drewN | apply below_drew1)), (by repeat (first | exact HK.out | apply keep_drewN | apply keep_drew))⟩
       | true =>
        simp only [Bool.not_true, Bool.false_eq_true, if_false] at H
        have H' := Aside0.mk H
        clear H
        go_wp2
        go_quiet (first | (with_reducible exact Calls.quiet_of ((spec_l00In.calls _ _ _ _ _ A1.out).mono fun e w' h => ⟨h.1, h.2.out⟩)) | (with_reducible exact Calls.quiet_of ((spec_l00In.calls _ _ _ _ _ A2_.out).mono fun e w' h => ⟨h.1, h.2.out⟩)))
        go_wp2
        go_loopg [4] k2 (fun kq v4 w' => ∃ (x4 : Int), v4 = .int .i64 x4 ∧ Aside0 (spec_l05Points.l1 kq x3 x4 s0_0 s0_1 s0_2 s0_3 = some (r1, r2, r3)) ∧ Aside0 (kq ≤ k2) ∧ Aside0 (Drawn0 w w'))
        case atStart => exact ⟨0, rfl, H', ⟨Nat.le_refl _⟩, ⟨by repeat (first | exact HD.out | apply Drawn0.step)⟩⟩
        case round =>
         clear H' q0 q1 q2 y0 y1 HM HD A1 A2_
         obtain ⟨x4, rfl, HA, HK2, HD⟩ := hrel
         cases gk with
         | zero => exact absurd HA.out (by simp [spec_l05Points.l1])
         | succ k3 =>
          have H := HA.out
          clear HA
          simp only [spec_l05Points.l1] at H
          have hD := HD.out
          obtain ⟨m1, hm1⟩ := hD.out
          have q2 : wr.cell? ⟨g, 2, none⟩ = some (.slice (some ad) s0_2.length c2) := by rw [hm1, ← EA.out]; exact Q2.out
          clear hD
          have HM := Aside0.mk hm1
          clear hm1
          by_cases c4_ : x4 < x3
          ·rw [if_pos c4_] at H
           have c4b : decide (x4 < x3) = true := decide_eq_true c4_
           rw [if_pos c3_, if_pos c2_] at H
           by_cases c5_ : 0 ≤ x4
           ·rw [if_pos c5_] at H
            have c5b : decide (0 ≤ x4) = true := decide_eq_true c5_
            have c6_ : x4 < (s0_2.length : Int) := by omega
            rw [if_pos c6_] at H
            have c6b : decide (x4 < (s0_2.length : Int)) = true := decide_eq_true c6_
            obtain ⟨ad', ea', y0_, y1_⟩ := Hpts_.out x3 c3_ c2_
            obtain rfl : ad = ad' := Option.some.inj (EA.out.symm.trans ea')
            obtain ⟨ad', ea2', z0_, z1_⟩ := Hpts_.out x4 c5_ c6_
            obtain rfl : ad = ad' := Option.some.inj (EA.out.symm.trans ea2')
            have y0 : wr.cell? (ad.add (x3.toNat * 2)) = some (.int .i64 (rd_T48 s0_2 x3).f0) := by rw [HM.out]; exact y0_
            have y1 : wr.cell? ⟨(ad.add (x3.toNat * 2)).block, (ad.add (x3.toNat * 2)).off + 1, none⟩ = some (.int .i64 (rd_T48 s0_2 x3).f1) := by rw [HM.out]; exact y1_
            have z0 : wr.cell? (ad.add (x4.toNat * 2)) = some (.int .i64 (rd_T48 s0_2 x4).f0) := by rw [HM.out]; exact z0_
            have z1 : wr.cell? ⟨(ad.add (x4.toNat * 2)).block, (ad.add (x4.toNat * 2)).off + 1, none⟩ = some (.int .i64 (rd_T48 s0_2 x4).f1) := by rw [HM.out]; exact z1_
            clear y0_ y1_ z0_ z1_ ea' ea2'
            cases c7_ : (((rd_T48 s0_2 x3).f0) == ((rd_T48 s0_2 x4).f0) && (((rd_T48 s0_2 x3).f1) == ((rd_T48 s0_2 x4).f1))) with
            | true =>
             rw [if_pos c7_] at H
             simp only [Option.some.injEq, Prod.mk.injEq] at H
             obtain ⟨rfl, rfl, rfl⟩ := H
             go_wp2
             go_quiet (fail)
             go_wp2
             go_ret
             rw [HM.out]; exact ⟨(by first | rfl | (simp; done) | (simp [*]; done)), (by repeat (first | exact HI0.out | apply IsS31.drewN | apply IsS31.drew)), (by repeat (first | exact HB.out | apply pw_below_drewN | apply below_drew1)), (by repeat (first | exact HK.out | apply keep_drewN | apply keep_drew))⟩
            | false =>
             rw [if_neg (by rw [c7_]; decide)] at H
             have H' := Aside0.mk H
             clear H
             go_wp2
             go_quiet (fail)
             go_wp2
             go_roundg k3
             case measure => have := HK1.out; have := HK2.out; omega
             case rel => exact ⟨(wrap64 (x4 + 1)), (by first | rfl | (simp; done) | (simp [*]; done)), H', ⟨by have := HK1.out; have := HK2.out; omega⟩, ⟨by repeat (first | exact HD.out | apply Drawn0.step)⟩⟩
           ·rw [if_neg c5_] at H
            exact absurd H (by simp)
          ·rw [if_neg c4_] at H
           have c4b : decide (x4 < x3) = false := decide_eq_false c4_
           have H' := Aside0.mk H
           clear H
           go_wp2
           go_roundg k3
           case measure => have := HK1.out; have := HK2.out; omega
           case rel => exact ⟨(wrap64 (x3 + 1)), (by first | rfl | (simp; done) | (simp [*]; done)), H', ⟨by have := HK1.out; have := HK2.out; omega⟩, ⟨by repeat (first | exact HD.out | apply Drawn0.step)⟩⟩
      | false =>
       replace H := (show (spec_l05Points.j1 k1 x3 true s0_0 s0_1 s0_2 s0_3) = some (r1, r2, r3) from by first | exact H | simpa using H)
       cases k1 with
       | zero => exact absurd H (by simp [spec_l05Points.j1])
       | succ k2 =>
       simp only [spec_l05Points.j1, if_true, Option.some.injEq, Prod.mk.injEq] at H
       obtain ⟨rfl, rfl, rfl⟩ := H
       go_wp2
       go_quiet (with_reducible exact Calls.quiet_of ((spec_l00In.calls _ _ _ _ _ A1.out).mono fun e w' h => ⟨h.1, h.2.out⟩))
       go_wp2
       go_ret
       rw [HM.out]; exact ⟨(by first | rfl | (simp; done) | (simp [*]; done)), (by repeat (first | exact HI0.out | apply IsS31.drewN | apply IsS31.drew)), (by repeat (first | exact HB.out | apply pw_below_drewN | apply below_drew1)), (by repeat (first | exact HK.out | apply keep_drewN | apply keep_drew))⟩
     ·rw [if_neg c3_] at H
      exact absurd H (by simp)
    ·rw [if_neg c2_] at H
     have c2b : decide (x3 < (s0_2.length : Int)) = false := decide_eq_false c2_
     simp only [Option.some.injEq, Prod.mk.injEq] at H
     obtain ⟨rfl, rfl, rfl⟩ := H
     go_wp2
     go_ret
     rw [HM.out]; exact ⟨(by first | rfl | (simp; done) | (simp [*]; done)), (by repeat (first | exact HI0.out | apply IsS31.drewN | apply IsS31.drew)), (by repeat (first | exact HB.out | apply pw_below_drewN | apply below_drew1)), (by repeat (first | exact HK.out | apply keep_drewN | apply keep_drew))⟩
end Go.Proofs.Ytlfifbalakgfeaa.PFnExactFaceAt
