/- Contracts of functions that FnExactEarsOf reaches, out of the lines of the kit's print. -/
import Derived.Test.YtkobmkdjmpnojaaQFnExactEarsOfx0
import Derived.Test.YtkobmkdjmpnojaaQFnExactEarsOfx9
import Derived.Test.YtkobmkdjmpnojaaQFnExactEarsOfx12
namespace Go.Proofs.Ytkobmkdjmpnojaa.PFnExactEarsOf
open Go.RowKit Go.Proofs.YtkobmkdjmpnojaaW.PrintWords Go.Proofs.YtkobmkdjmpnojaaW.PrintLast Go.Proofs.YtkobmkdjmpnojaaW.PrintMore
open Bool renaming true → tT, false → fF
open Go.World renaming block_lt_of_cell? → bL
attribute [local go_sem] max2_int min2_int max_two min_two max_three min_three max_four min_four
set_option linter.unusedVariables false
set_option linter.unusedSimpArgs false
def impl_ear.l0 : Nat → Int → Int → List (S30) → Int → Int → Int → Int → Int → Int → Int → Int → Option (Bool)
 | 0, _, _, _, _, _, _, _, _, _, _, _ => none
 | k + 1, x1, x5, x38, x39, x40, x257000, x257001, x258000, x258001, x259000, x259001 => if x40 < x39 then (if 0 ≤ x40 then (if x40 < (x38.length : Int) then (if x40 = x1 then (impl_ear.l0 k x1 x5 x38 x39 (wrap64 (x40 + 1)) x257000 x257001 x258000 x258001 x259000 x259001) else (if x5 = 0 then (none) else (if x40 = (Int.tmod (wrap64 ((wrap64 (x1 + x5)) - 1)) x5) then (impl_ear.l0 k x1 x5 x38 x39 (wrap64 (x40 + 1)) x257000 x257001 x258000 x258001 x259000 x259001) else (if x40 = (Int.tmod (wrap64 (x1 + 1)) x5) then (impl_ear.l0 k x1 x5 x38 x39 (wrap64 (x40 + 1)) x257000 x257001 x258000 x258001 x259000 x259001) else ((impl_inTriangle.f x257000 x257001 x258000 x258001 x259000 x259001 ((rd_T30 x38 x40).f0) ((rd_T30 x38 x40).f1)).bind fun t262 => (if t262 = true then (some false) else (impl_ear.l0 k x1 x5 x38 x39 (wrap64 (x40 + 1)) x257000 x257001 x258000 x258001 x259000 x259001))))))) else (none)) else (none)) else (some true)
def impl_ear.f (k : Nat) (l0 : List (S30)) (a1 : Int) : Option (Bool) := if (l0.length : Int) = 0 then (none) else (if 0 ≤ (Int.tmod (wrap64 ((wrap64 (a1 + (l0.length : Int))) - 1)) (l0.length : Int)) then (if (Int.tmod (wrap64 ((wrap64 (a1 + (l0.length : Int))) - 1)) (l0.length : Int)) < (l0.length : Int) then (if 0 ≤ a1 then (if a1 < (l0.length : Int) then (if 0 ≤ (Int.tmod (wrap64 (a1 + 1)) (l0.length : Int)) then (if (Int.tmod (wrap64 (a1 + 1)) (l0.length : Int)) < (l0.length : Int) then ((impl_side.f ((rd_T30 l0 (Int.tmod (wrap64 ((wrap64 (a1 + (l0.length : Int))) - 1)) (l0.length : Int))).f0) ((rd_T30 l0 (Int.tmod (wrap64 ((wrap64 (a1 + (l0.length : Int))) - 1)) (l0.length : Int))).f1) ((rd_T30 l0 a1).f0) ((rd_T30 l0 a1).f1) ((rd_T30 l0 (Int.tmod (wrap64 (a1 + 1)) (l0.length : Int))).f0) ((rd_T30 l0 (Int.tmod (wrap64 (a1 + 1)) (l0.length : Int))).f1)).bind fun t259 => (if t259 = 1 then (impl_ear.l0 k a1 (l0.length : Int) l0 (l0.length : Int) 0 ((rd_T30 l0 (Int.tmod (wrap64 ((wrap64 (a1 + (l0.length : Int))) - 1)) (l0.length : Int))).f0) ((rd_T30 l0 (Int.tmod (wrap64 ((wrap64 (a1 + (l0.length : Int))) - 1)) (l0.length : Int))).f1) ((rd_T30 l0 a1).f0) ((rd_T30 l0 a1).f1) ((rd_T30 l0 (Int.tmod (wrap64 (a1 + 1)) (l0.length : Int))).f0) ((rd_T30 l0 (Int.tmod (wrap64 (a1 + 1)) (l0.length : Int))).f1)) else (some false))) else (none)) else (none)) else (none)) else (none)) else (none)) else (none))
theorem impl_ear.mono_l : ∀ k, (∀ y0 y1 y2 y3 y4 y5 y6 y7 y8 y9 y10, LeO (impl_ear.l0 k y0 y1 y2 y3 y4 y5 y6 y7 y8 y9 y10) (impl_ear.l0 (k + 1) y0 y1 y2 y3 y4 y5 y6 y7 y8 y9 y10))
 | 0 => fun _ _ _ _ _ _ _ _ _ _ _ r h => by simp [impl_ear.l0] at h
 | k + 1 => by
  have ih0 := impl_ear.mono_l k
  ·intro y0 y1 y2 y3 y4 y5 y6 y7 y8 y9 y10
   unfold impl_ear.l0
   repeat' first
   | (with_reducible exact ih0 _ _ _ _ _ _ _ _ _ _ _)
   | (with_reducible exact LeO.refl _)
   | (with_reducible exact LeO.none _)
   | (with_reducible refine LeO.ite ?_ ?_)
   | (with_reducible refine LeO.bind ?_ (fun _ => ?_))
   | exact ih0 _ _ _ _ _ _ _ _ _ _ _
   | exact LeO.none _
   | refine LeO.ite ?_ ?_
   | refine LeO.bind ?_ (fun _ => ?_)
theorem impl_ear.mono : ∀ a0 a1 k, LeO (impl_ear.f k a0 a1) (impl_ear.f (k + 1) a0 a1) := by
 intro a0 a1 k
 have ih0 := impl_ear.mono_l k
 unfold impl_ear.f
 repeat' first
   | (with_reducible exact ih0 _ _ _ _ _ _ _ _ _ _ _)
   | (with_reducible exact LeO.refl _)
   | (with_reducible exact LeO.none _)
   | (with_reducible refine LeO.ite ?_ ?_)
   | (with_reducible refine LeO.bind ?_ (fun _ => ?_))
   | exact ih0 _ _ _ _ _ _ _ _ _ _ _
   | exact LeO.none _
   | refine LeO.ite ?_ ?_
   | refine LeO.bind ?_ (fun _ => ?_)
def impl_ear.T2 : Bool × List (List Nat × List Nat) := (true, [([], []), ([], []), ([], []), ([1, 2], [1, 2]), ([3], [3]), ([], []), ([4, 5], [4, 5]), ([0, 6], [0, 6]), ([7], [7]), ([], []), ([], []), ([9, 10], [9, 10]), ([11], [11]), ([], []), ([], []), ([14], [14]), ([], []), ([15, 16], [15, 16]), ([13, 17], [13, 17]), ([18], [18]), ([], []), ([], []), ([], []), ([20, 8, 0, 1, 2, 3, 4, 5, 6, 7, 8, 20, 21, 22], [8, 20]), ([21, 12, 23, 0, 1, 2, 3, 4, 5, 6, 7, 8, 9, 10, 11, 12, 20, 21, 22, 23], [12, 21]), ([22, 19, 24, 0, 1, 2, 3, 4, 5, 6, 7, 8, 9, 10, 11, 12, 13, 14, 15, 16, 17, 18, 19, 20, 21, 22, 23, 24], [19, 22])])
def impl_ear.B2 : List Nat := [0, 0, 0, 6, 14, 0, 62, 127, 255, 0, 0, 1536, 3584, 0, 0, 16384, 0, 114688, 253952, 516096, 0, 0, 0, 7340543, 15736831, 33554431]
theorem impl_ear.tab2 : rtab .any (opsOf Try.f75 2) = impl_ear.T2 := by kernel_rfl
theorem impl_ear.bits2 : waitsOk impl_ear.T2.2 impl_ear.B2 = true := by kernel_rfl
set_option maxHeartbeats 8000000 in
set_option maxRecDepth 100000 in
theorem impl_ear.calls (k : Nat) (A0 : Option Addr) (c0 : Nat) (l0 : List (S30)) (a1 : Int) (r : Bool) (w : World) (hr0 : Kd.C k30 w A0 l0.length l0) (hc0 : l0.length ≤ c0) (h : impl_ear.f k l0 a1 = some r) :
  Calls Try.prog 75 #[.slice A0 l0.length c0, .int .i64 a1] w fun e w' => e = .returned (.bool r) ∧ Below w.heap.size w w' := by
 have hu30 := Try.underlying30
 have HR0 := Aside0.mk hr0
 have HC0 := Aside0.mk hc0
 clear hr0 hc0
 have HB := Aside0.mk (Below.refl w.heap.size w)
 have H : (if (l0.length : Int) = 0 then (none) else (if 0 ≤ (Int.tmod (wrap64 ((wrap64 (a1 + (l0.length : Int))) - 1)) (l0.length : Int)) then (if (Int.tmod (wrap64 ((wrap64 (a1 + (l0.length : Int))) - 1)) (l0.length : Int)) < (l0.length : Int) then (if 0 ≤ a1 then (if a1 < (l0.length : Int) then (if 0 ≤ (Int.tmod (wrap64 (a1 + 1)) (l0.length : Int)) then (if (Int.tmod (wrap64 (a1 + 1)) (l0.length : Int)) < (l0.length : Int) then ((impl_side.f ((rd_T30 l0 (Int.tmod (wrap64 ((wrap64 (a1 + (l0.length : Int))) - 1)) (l0.length : Int))).f0) ((rd_T30 l0 (Int.tmod (wrap64 ((wrap64 (a1 + (l0.length : Int))) - 1)) (l0.length : Int))).f1) ((rd_T30 l0 a1).f0) ((rd_T30 l0 a1).f1) ((rd_T30 l0 (Int.tmod (wrap64 (a1 + 1)) (l0.length : Int))).f0) ((rd_T30 l0 (Int.tmod (wrap64 (a1 + 1)) (l0.length : Int))).f1)).bind fun t259 => (if t259 = 1 then (impl_ear.l0 k a1 (l0.length : Int) l0 (l0.length : Int) 0 ((rd_T30 l0 (Int.tmod (wrap64 ((wrap64 (a1 + (l0.length : Int))) - 1)) (l0.length : Int))).f0) ((rd_T30 l0 (Int.tmod (wrap64 ((wrap64 (a1 + (l0.length : Int))) - 1)) (l0.length : Int))).f1) ((rd_T30 l0 a1).f0) ((rd_T30 l0 a1).f1) ((rd_T30 l0 (Int.tmod (wrap64 (a1 + 1)) (l0.length : Int))).f0) ((rd_T30 l0 (Int.tmod (wrap64 (a1 + 1)) (l0.length : Int))).f1)) else (some false))) else (none)) else (none)) else (none)) else (none)) else (none)) else (none))) = some r := h
 clear h
 by_cases c3 : (l0.length : Int) = 0
 ·rw [if_pos c3] at H
  exact absurd H (by simp)
 ·rw [if_neg c3] at H
  have c3b0 : ((l0.length : Int) == 0) = false := beq_eq_false_iff_ne.mpr c3
  have c3b1 : ((l0.length : Int) != 0) = true := bne_iff_ne.mpr c3
  have c3b2 : ¬ (l0 = []) := fun h_ => c3 (by rw [h_]; rfl)
  obtain ⟨ji4, hji4⟩ : ∃ j_ : Int, (Int.tmod (wrap64 ((wrap64 (a1 + (l0.length : Int))) - 1)) (l0.length : Int)) = j_ := ⟨_, rfl⟩
  replace H : (if 0 ≤ (ji4) then (if (ji4) < (l0.length : Int) then (if 0 ≤ a1 then (if a1 < (l0.length : Int) then (if 0 ≤ (Int.tmod (wrap64 (a1 + 1)) (l0.length : Int)) then (if (Int.tmod (wrap64 (a1 + 1)) (l0.length : Int)) < (l0.length : Int) then ((impl_side.f ((rd_T30 l0 (ji4)).f0) ((rd_T30 l0 (ji4)).f1) ((rd_T30 l0 a1).f0) ((rd_T30 l0 a1).f1) ((rd_T30 l0 (Int.tmod (wrap64 (a1 + 1)) (l0.length : Int))).f0) ((rd_T30 l0 (Int.tmod (wrap64 (a1 + 1)) (l0.length : Int))).f1)).bind fun t259 => (if t259 = 1 then (impl_ear.l0 k a1 (l0.length : Int) l0 (l0.length : Int) 0 ((rd_T30 l0 (ji4)).f0) ((rd_T30 l0 (ji4)).f1) ((rd_T30 l0 a1).f0) ((rd_T30 l0 a1).f1) ((rd_T30 l0 (Int.tmod (wrap64 (a1 + 1)) (l0.length : Int))).f0) ((rd_T30 l0 (Int.tmod (wrap64 (a1 + 1)) (l0.length : Int))).f1)) else (some false))) else (none)) else (none)) else (none)) else (none)) else (none)) else (none)) = some r := by first | (rw [hji4] at H; exact H) | (simp only [hji4] at H ⊢; exact H)
  by_cases c5 : 0 ≤ (ji4)
  ·rw [if_pos c5] at H
   have c5b0 : decide (0 ≤ (ji4)) = true := decide_eq_true c5
   clear c5
   by_cases c6 : (ji4) < (l0.length : Int)
   ·rw [if_pos c6] at H
    have c6b0 : decide ((ji4) < (l0.length : Int)) = true := decide_eq_true c6
    clear c6
    by_cases c7 : 0 ≤ a1
    ·rw [if_pos c7] at H
     have c7b0 : decide (0 ≤ a1) = true := decide_eq_true c7
     clear c7
     by_cases c8 : a1 < (l0.length : Int)
     ·rw [if_pos c8] at H
      have c8b0 : decide (a1 < (l0.length : Int)) = true := decide_eq_true c8
      clear c8
      obtain ⟨ji9, hji9⟩ : ∃ j_ : Int, (Int.tmod (wrap64 (a1 + 1)) (l0.length : Int)) = j_ := ⟨_, rfl⟩
      replace H : (if 0 ≤ (ji9) then (if (ji9) < (l0.length : Int) then ((impl_side.f ((rd_T30 l0 (ji4)).f0) ((rd_T30 l0 (ji4)).f1) ((rd_T30 l0 a1).f0) ((rd_T30 l0 a1).f1) ((rd_T30 l0 (ji9)).f0) ((rd_T30 l0 (ji9)).f1)).bind fun t259 => (if t259 = 1 then (impl_ear.l0 k a1 (l0.length : Int) l0 (l0.length : Int) 0 ((rd_T30 l0 (ji4)).f0) ((rd_T30 l0 (ji4)).f1) ((rd_T30 l0 a1).f0) ((rd_T30 l0 a1).f1) ((rd_T30 l0 (ji9)).f0) ((rd_T30 l0 (ji9)).f1)) else (some false))) else (none)) else (none)) = some r := by first | (rw [hji9] at H; exact H) | (simp only [hji9] at H ⊢; exact H)
      by_cases c10 : 0 ≤ (ji9)
      ·rw [if_pos c10] at H
       have c10b0 : decide (0 ≤ (ji9)) = true := decide_eq_true c10
       clear c10
       by_cases c11 : (ji9) < (l0.length : Int)
       ·rw [if_pos c11] at H
        have c11b0 : decide ((ji9) < (l0.length : Int)) = true := decide_eq_true c11
        clear c11
        replace H := Option.bind_eq_some_iff.mp H
        obtain ⟨t259, A120, H⟩ := H
        replace H : (if t259 = 1 then (impl_ear.l0 k a1 (l0.length : Int) l0 (l0.length : Int) 0 ((rd_T30 l0 (ji4)).f0) ((rd_T30 l0 (ji4)).f1) ((rd_T30 l0 a1).f0) ((rd_T30 l0 a1).f1) ((rd_T30 l0 (ji9)).f0) ((rd_T30 l0 (ji9)).f1)) else (some false)) = some r := H
        have A12 := Aside0.mk A120
        clear A120
        by_cases c13 : t259 = 1
        ·rw [if_pos c13] at H
         have c13b0 : (t259 == 1) = true := beq_iff_eq.mpr c13
         have c13b1 : (t259 != 1) = false := bne_eq_false_iff_eq.mpr c13
         clear c13
         have H' := Aside0.mk H
         clear H
         go_enter Try.func75, Try.ntmps75
         try go_wp2
         have n0_ := Aside0.mk (below_drew1 HB.out)
         clear HB
         have HB := n0_
         clear n0_
         have p253 : 0 ≤ ((ji4) : Int) := of_decide_eq_true (by first | (with_reducible assumption) | assumption)
         have q253 : (ji4) < (l0.length : Int) := of_decide_eq_true (by first | (with_reducible assumption) | assumption)
         obtain ⟨ad253, e253, hx253_0, hx253_1⟩ := at_T30 HR0.out (ji4) p253 q253
         have hw253_1 := hx253_1
         have hw253_0 := hx253_0
         cases e253
         replace hx253_0 := (HB.out.cell (bL w _ hx253_0)).trans hx253_0
         replace hx253_1 := (HB.out.cell (bL w _ hx253_1)).trans hx253_1
         replace p253 := eq_true p253
         replace q253 := eq_true q253
         have p254 : 0 ≤ (a1 : Int) := of_decide_eq_true (by first | (with_reducible assumption) | assumption)
         have q254 : a1 < (l0.length : Int) := of_decide_eq_true (by first | (with_reducible assumption) | assumption)
         obtain ⟨ad254, e254, hx254_0, hx254_1⟩ := at_T30 HR0.out a1 p254 q254
         have hw254_1 := hx254_1
         have hw254_0 := hx254_0
         obtain rfl : ad253 = ad254 := (by injection e254)
         replace hx254_0 := (HB.out.cell (bL w _ hx254_0)).trans hx254_0
         replace hx254_1 := (HB.out.cell (bL w _ hx254_1)).trans hx254_1
         replace p254 := eq_true p254
         replace q254 := eq_true q254
         have p255 : 0 ≤ ((ji9) : Int) := of_decide_eq_true (by first | (with_reducible assumption) | assumption)
         have q255 : (ji9) < (l0.length : Int) := of_decide_eq_true (by first | (with_reducible assumption) | assumption)
         obtain ⟨ad255, e255, hx255_0, hx255_1⟩ := at_T30 HR0.out (ji9) p255 q255
         have hw255_1 := hx255_1
         have hw255_0 := hx255_0
         obtain rfl : ad253 = ad255 := (by injection e255)
         replace hx255_0 := (HB.out.cell (bL w _ hx255_0)).trans hx255_0
         replace hx255_1 := (HB.out.cell (bL w _ hx255_1)).trans hx255_1
         replace p255 := eq_true p255
         replace q255 := eq_true q255
         refine start_ (n := 26) (S := fun w' => w'.cell? (ad253.add (((ji4)).toNat * 2)) = some (.int .i64 ((rd_T30 l0 (ji4)).f0)) ∧ w'.cell? ⟨(ad253.add (((ji4)).toNat * 2)).block, (ad253.add (((ji4)).toNat * 2)).off + 1, none⟩ = some (.int .i64 ((rd_T30 l0 (ji4)).f1)) ∧ w'.cell? (ad253.add ((a1).toNat * 2)) = some (.int .i64 ((rd_T30 l0 a1).f0)) ∧ w'.cell? ⟨(ad253.add ((a1).toNat * 2)).block, (ad253.add ((a1).toNat * 2)).off + 1, none⟩ = some (.int .i64 ((rd_T30 l0 a1).f1)) ∧ w'.cell? (ad253.add (((ji9)).toNat * 2)) = some (.int .i64 ((rd_T30 l0 (ji9)).f0)) ∧ w'.cell? ⟨(ad253.add (((ji9)).toNat * 2)).block, (ad253.add (((ji9)).toNat * 2)).off + 1, none⟩ = some (.int .i64 ((rd_T30 l0 (ji9)).f1))) (ds := []) #[fF,fF,fF,fF,fF,fF,fF,fF,fF,fF,fF,fF,fF,fF,fF,fF,fF,fF,fF,fF,fF,fF,fF,fF,fF,fF] (by kernel_rfl) rfl rfl ⟨((HB.out.cell (bL w _ hw253_0)).trans hw253_0), ((HB.out.cell (bL w _ hw253_1)).trans hw253_1), ((HB.out.cell (bL w _ hw254_0)).trans hw254_0), ((HB.out.cell (bL w _ hw254_1)).trans hw254_1), ((HB.out.cell (bL w _ hw255_0)).trans hw255_0), ((HB.out.cell (bL w _ hw255_1)).trans hw255_1)⟩ (fun hHeld => ?_); refine with_tabW impl_ear.tab2 impl_ear.bits2 (fun HT_ HW_ => ?_)
         generalize w.drew = w14 at HB hx253_0 hx253_1 hx254_0 hx254_1 hx255_0 hx255_1 hHeld ⊢
         refine pure_ (i := 0) (N := some 13) (v := ?_) (a' := ?_) #[tT,fF,fF,fF,fF,fF,fF,fF,fF,fF,fF,fF,fF,fF,fF,fF,fF,fF,fF,fF,fF,fF,fF,fF,fF,fF] rfl rfl (any_of HT_.out (by kernel_rfl)) (fun _ _ _ h => h) (Or.inl ⟨by rfl, ?_⟩) ?_ ?_
         rotate_left
         ·intro w'
          go_simp
          with_reducible rfl
         rotate_left
         ·exact pa
         refine pure_ (i := 1) (N := some 14) (v := ?_) (a' := ?_) #[tT,tT,fF,fF,fF,fF,fF,fF,fF,fF,fF,fF,fF,fF,fF,fF,fF,fF,fF,fF,fF,fF,fF,fF,fF,fF] rfl rfl (any_of HT_.out (by kernel_rfl)) (fun _ _ _ h => h) (Or.inl ⟨by rfl, ?_⟩) ?_ ?_
         rotate_left
         ·intro w'
          go_simp
          with_reducible rfl
         rotate_left
         ·exact pa
         refine pure_ (i := 2) (N := some 15) (v := ?_) (a' := ?_) #[tT,tT,tT,fF,fF,fF,fF,fF,fF,fF,fF,fF,fF,fF,fF,fF,fF,fF,fF,fF,fF,fF,fF,fF,fF,fF] rfl rfl (any_of HT_.out (by kernel_rfl)) (fun _ _ _ h => h) (Or.inl ⟨by rfl, ?_⟩) ?_ ?_
         rotate_left
         ·intro w'
          go_simp
          with_reducible rfl
         rotate_left
         ·exact pa
         refine pure_ (i := 3) (N := some 16) (v := ?_) (a' := ?_) #[tT,tT,tT,tT,fF,fF,fF,fF,fF,fF,fF,fF,fF,fF,fF,fF,fF,fF,fF,fF,fF,fF,fF,fF,fF,fF] rfl rfl (any_of HT_.out (by kernel_rfl)) (fun _ _ _ h => h) (Or.inl ⟨by rfl, ?_⟩) ?_ ?_
         rotate_left
         ·intro w'
          go_simp
          with_reducible rfl
         rotate_left
         ·exact pa
         refine pure_ (i := 4) (N := some 17) (v := ?_) (a' := ?_) #[tT,tT,tT,tT,tT,fF,fF,fF,fF,fF,fF,fF,fF,fF,fF,fF,fF,fF,fF,fF,fF,fF,fF,fF,fF,fF] rfl rfl (any_of HT_.out (by kernel_rfl)) (fun _ _ _ h => h) (Or.inl ⟨by rfl, ?_⟩) ?_ ?_
         rotate_left
         ·intro w'
          go_simp
          with_reducible rfl
         rotate_left
         ·exact pa
         refine pure_ (i := 5) (N := some 18) (v := ?_) (a' := ?_) #[tT,tT,tT,tT,tT,tT,fF,fF,fF,fF,fF,fF,fF,fF,fF,fF,fF,fF,fF,fF,fF,fF,fF,fF,fF,fF] rfl rfl (any_of HT_.out (by kernel_rfl)) (fun _ _ _ h => h) (Or.inl ⟨by rfl, ?_⟩) ?_ ?_
         rotate_left
         ·intro w'
          go_simp
          with_reducible rfl
         rotate_left
         ·exact pa
         refine pure_ (i := 6) (N := some 19) (v := ?_) (a' := ?_) #[tT,tT,tT,tT,tT,tT,tT,fF,fF,fF,fF,fF,fF,fF,fF,fF,fF,fF,fF,fF,fF,fF,fF,fF,fF,fF] rfl rfl (any_of HT_.out (by kernel_rfl)) (fun _ _ _ h => h) (Or.inl ⟨by rfl, ?_⟩) ?_ ?_
         rotate_left
         ·intro w'
          go_simp
          with_reducible rfl
         rotate_left
         ·exact pa
         refine pure_ (i := 7) (N := some 20) (v := ?_) (a' := ?_) #[tT,tT,tT,tT,tT,tT,tT,tT,fF,fF,fF,fF,fF,fF,fF,fF,fF,fF,fF,fF,fF,fF,fF,fF,fF,fF] rfl rfl (any_of HT_.out (by kernel_rfl)) (fun _ _ _ h => h) (Or.inl ⟨by rfl, ?_⟩) ?_ ?_
         rotate_left
         ·intro w'
          go_simp
          with_reducible rfl
         rotate_left
         ·exact pa
         refine pure_ (i := 9) (N := some 22) (v := ?_) (a' := ?_) #[tT,tT,tT,tT,tT,tT,tT,tT,fF,tT,fF,fF,fF,fF,fF,fF,fF,fF,fF,fF,fF,fF,fF,fF,fF,fF] rfl rfl (any_of HT_.out (by kernel_rfl)) (fun _ _ _ h => h) (Or.inl ⟨by rfl, ?_⟩) ?_ ?_
         rotate_left
         ·intro w'
          go_simp
          with_reducible rfl
         rotate_left
         ·exact pa
         refine pure_ (i := 10) (N := some 23) (v := ?_) (a' := ?_) #[tT,tT,tT,tT,tT,tT,tT,tT,fF,tT,tT,fF,fF,fF,fF,fF,fF,fF,fF,fF,fF,fF,fF,fF,fF,fF] rfl rfl (any_of HT_.out (by kernel_rfl)) (fun _ _ _ h => h) (Or.inl ⟨by rfl, ?_⟩) ?_ ?_
         rotate_left
         ·intro w'
          go_simp
          with_reducible rfl
         rotate_left
         ·exact pa
         refine pure_ (i := 11) (N := some 24) (v := ?_) (a' := ?_) #[tT,tT,tT,tT,tT,tT,tT,tT,fF,tT,tT,tT,fF,fF,fF,fF,fF,fF,fF,fF,fF,fF,fF,fF,fF,fF] rfl rfl (any_of HT_.out (by kernel_rfl)) (fun _ _ _ h => h) (Or.inl ⟨by rfl, ?_⟩) ?_ ?_
         rotate_left
         ·intro w'
          go_simp
          with_reducible rfl
         rotate_left
         ·exact pa
         refine pure_ (i := 13) (N := some 26) (v := ?_) (a' := ?_) #[tT,tT,tT,tT,tT,tT,tT,tT,fF,tT,tT,tT,fF,tT,fF,fF,fF,fF,fF,fF,fF,fF,fF,fF,fF,fF] rfl rfl (any_of HT_.out (by kernel_rfl)) (fun _ _ _ h => h) (Or.inl ⟨by rfl, ?_⟩) ?_ ?_
         rotate_left
         ·intro w'
          go_simp
          with_reducible rfl
         rotate_left
         ·exact pa
         refine pure_ (i := 14) (N := some 27) (v := ?_) (a' := ?_) #[tT,tT,tT,tT,tT,tT,tT,tT,fF,tT,tT,tT,fF,tT,tT,fF,fF,fF,fF,fF,fF,fF,fF,fF,fF,fF] rfl rfl (any_of HT_.out (by kernel_rfl)) (fun _ _ _ h => h) (Or.inl ⟨by rfl, ?_⟩) ?_ ?_
         rotate_left
         ·intro w'
          go_simp
          with_reducible rfl
         rotate_left
         ·exact pa
         refine pure_ (i := 15) (N := some 28) (v := ?_) (a' := ?_) #[tT,tT,tT,tT,tT,tT,tT,tT,fF,tT,tT,tT,fF,tT,tT,tT,fF,fF,fF,fF,fF,fF,fF,fF,fF,fF] rfl rfl (any_of HT_.out (by kernel_rfl)) (fun _ _ _ h => h) (Or.inl ⟨by rfl, ?_⟩) ?_ ?_
         rotate_left
         ·intro w'
          go_simp
          with_reducible rfl
         rotate_left
         ·exact pa
         refine pure_ (i := 16) (N := some 29) (v := ?_) (a' := ?_) #[tT,tT,tT,tT,tT,tT,tT,tT,fF,tT,tT,tT,fF,tT,tT,tT,tT,fF,fF,fF,fF,fF,fF,fF,fF,fF] rfl rfl (any_of HT_.out (by kernel_rfl)) (fun _ _ _ h => h) (Or.inl ⟨by rfl, ?_⟩) ?_ ?_
         rotate_left
         ·intro w'
          go_simp
          with_reducible rfl
         rotate_left
         ·exact pa
         refine pure_ (i := 17) (N := some 30) (v := ?_) (a' := ?_) #[tT,tT,tT,tT,tT,tT,tT,tT,fF,tT,tT,tT,fF,tT,tT,tT,tT,tT,fF,fF,fF,fF,fF,fF,fF,fF] rfl rfl (any_of HT_.out (by kernel_rfl)) (fun _ _ _ h => h) (Or.inl ⟨by rfl, ?_⟩) ?_ ?_
         rotate_left
         ·intro w'
          go_simp
          with_reducible rfl
         rotate_left
         ·exact pa
         refine pure_ (i := 18) (N := some 31) (v := ?_) (a' := ?_) #[tT,tT,tT,tT,tT,tT,tT,tT,fF,tT,tT,tT,fF,tT,tT,tT,tT,tT,tT,fF,fF,fF,fF,fF,fF,fF] rfl rfl (any_of HT_.out (by kernel_rfl)) (fun _ _ _ h => h) (Or.inl ⟨by rfl, ?_⟩) ?_ ?_
         rotate_left
         ·intro w'
          go_simp
          with_reducible rfl
         rotate_left
         ·exact pa
         refine take_ (i := 8) (N := some 21) (v := ?_) (a' := ?_) #[tT,tT,tT,tT,tT,tT,tT,tT,tT,tT,tT,tT,fF,tT,tT,tT,tT,tT,tT,fF,fF,fF,fF,fF,fF,fF] rfl rfl (take_ofW HT_.out HW_.out (by kernel_rfl)) (fun _ _ _ h => h) (Or.inl ⟨by rfl, ?_⟩) hHeld ?_ ?_
         rotate_left
         ·rintro w' ⟨s0, s1, s2, s3, s4, s5⟩
          go_simp
          with_reducible rfl
         rotate_left
         ·exact pa
         refine take_ (i := 12) (N := some 25) (v := ?_) (a' := ?_) #[tT,tT,tT,tT,tT,tT,tT,tT,tT,tT,tT,tT,tT,tT,tT,tT,tT,tT,tT,fF,fF,fF,fF,fF,fF,fF] rfl rfl (take_ofW HT_.out HW_.out (by kernel_rfl)) (fun _ _ _ h => h) (Or.inl ⟨by rfl, ?_⟩) hHeld ?_ ?_
         rotate_left
         ·rintro w' ⟨s0, s1, s2, s3, s4, s5⟩
          go_simp
          with_reducible rfl
         rotate_left
         ·exact pa
         refine take_ (i := 19) (N := some 32) (v := ?_) (a' := ?_) #[tT,tT,tT,tT,tT,tT,tT,tT,tT,tT,tT,tT,tT,tT,tT,tT,tT,tT,tT,tT,fF,fF,fF,fF,fF,fF] rfl rfl (take_ofW HT_.out HW_.out (by kernel_rfl)) (fun _ _ _ h => h) (Or.inl ⟨by rfl, ?_⟩) hHeld ?_ ?_
         rotate_left
         ·rintro w' ⟨s0, s1, s2, s3, s4, s5⟩
          go_simp
          with_reducible rfl
         rotate_left
         ·exact pa
         refine join_ (σ := Nat × Nat × Nat) 3 #[tT,tT,tT,tT,tT,tT,tT,tT,tT,tT,tT,tT,tT,tT,tT,tT,tT,tT,tT,tT,tT,tT,tT,fF,fF,fF] (fun s_ => [(6, .pointer (some ⟨s_.1, 0, none⟩)), (7, .pointer (some ⟨s_.2.1, 0, none⟩)), (8, .pointer (some ⟨s_.2.2, 0, none⟩))]) (fun s_ w' => (w'.cell? (ad253.add (((ji4)).toNat * 2)) = some (.int .i64 ((rd_T30 l0 (ji4)).f0)) ∧ w'.cell? ⟨(ad253.add (((ji4)).toNat * 2)).block, (ad253.add (((ji4)).toNat * 2)).off + 1, none⟩ = some (.int .i64 ((rd_T30 l0 (ji4)).f1)) ∧ w'.cell? (ad253.add ((a1).toNat * 2)) = some (.int .i64 ((rd_T30 l0 a1).f0)) ∧ w'.cell? ⟨(ad253.add ((a1).toNat * 2)).block, (ad253.add ((a1).toNat * 2)).off + 1, none⟩ = some (.int .i64 ((rd_T30 l0 a1).f1)) ∧ w'.cell? (ad253.add (((ji9)).toNat * 2)) = some (.int .i64 ((rd_T30 l0 (ji9)).f0)) ∧ w'.cell? ⟨(ad253.add (((ji9)).toNat * 2)).block, (ad253.add (((ji9)).toNat * 2)).off + 1, none⟩ = some (.int .i64 ((rd_T30 l0 (ji9)).f1))) ∧ (w'.heap[s_.1]? = some (.cells #[.int .i64 0, .int .i64 0] 30 (0, 0))) ∧ (w'.heap[s_.2.1]? = some (.cells #[.int .i64 0, .int .i64 0] 30 (0, 0))) ∧ (w'.heap[s_.2.2]? = some (.cells #[.int .i64 0, .int .i64 0] 30 (0, 0))) ∧ (w.heap.size ≤ s_.1) ∧ (w.heap.size ≤ s_.1) ∧ (s_.2.1 ≠ s_.1) ∧ (s_.1 ≠ s_.2.1) ∧ (s_.2.2 ≠ s_.1) ∧ (s_.1 ≠ s_.2.2) ∧ (w.heap.size ≤ s_.2.1) ∧ (w.heap.size ≤ s_.2.1) ∧ (s_.2.2 ≠ s_.2.1) ∧ (s_.2.1 ≠ s_.2.2) ∧ (w.heap.size ≤ s_.2.2) ∧ (w.heap.size ≤ s_.2.2) ∧ (Below w.heap.size w w')) ?_ ?_
         rotate_left
         ·intro hJ20_21_22
          refine join_ (σ := Nat × Nat) 4 #[tT,tT,tT,tT,tT,tT,tT,tT,tT,tT,tT,tT,tT,tT,tT,tT,tT,tT,tT,tT,tT,tT,fF,fF,fF,fF] (fun s_ => [(6, .pointer (some ⟨s_.1, 0, none⟩)), (7, .pointer (some ⟨s_.2, 0, none⟩))]) (fun s_ w' => (w'.cell? (ad253.add (((ji4)).toNat * 2)) = some (.int .i64 ((rd_T30 l0 (ji4)).f0)) ∧ w'.cell? ⟨(ad253.add (((ji4)).toNat * 2)).block, (ad253.add (((ji4)).toNat * 2)).off + 1, none⟩ = some (.int .i64 ((rd_T30 l0 (ji4)).f1)) ∧ w'.cell? (ad253.add ((a1).toNat * 2)) = some (.int .i64 ((rd_T30 l0 a1).f0)) ∧ w'.cell? ⟨(ad253.add ((a1).toNat * 2)).block, (ad253.add ((a1).toNat * 2)).off + 1, none⟩ = some (.int .i64 ((rd_T30 l0 a1).f1)) ∧ w'.cell? (ad253.add (((ji9)).toNat * 2)) = some (.int .i64 ((rd_T30 l0 (ji9)).f0)) ∧ w'.cell? ⟨(ad253.add (((ji9)).toNat * 2)).block, (ad253.add (((ji9)).toNat * 2)).off + 1, none⟩ = some (.int .i64 ((rd_T30 l0 (ji9)).f1))) ∧ (w'.heap[s_.1]? = some (.cells #[.int .i64 0, .int .i64 0] 30 (0, 0))) ∧ (w'.heap[s_.2]? = some (.cells #[.int .i64 0, .int .i64 0] 30 (0, 0))) ∧ (w.heap.size ≤ s_.1) ∧ (w.heap.size ≤ s_.1) ∧ (s_.2 ≠ s_.1) ∧ (s_.1 ≠ s_.2) ∧ (w.heap.size ≤ s_.2) ∧ (w.heap.size ≤ s_.2) ∧ (Below w.heap.size w w')) ?_ ?_
          rotate_left
          ·intro hJ20_21
           refine join_ (σ := Nat × Nat) 4 #[tT,tT,tT,tT,tT,tT,tT,tT,tT,tT,tT,tT,tT,tT,tT,tT,tT,tT,tT,tT,tT,fF,tT,fF,fF,fF] (fun s_ => [(6, .pointer (some ⟨s_.1, 0, none⟩)), (8, .pointer (some ⟨s_.2, 0, none⟩))]) (fun s_ w' => (w'.cell? (ad253.add (((ji4)).toNat * 2)) = some (.int .i64 ((rd_T30 l0 (ji4)).f0)) ∧ w'.cell? ⟨(ad253.add (((ji4)).toNat * 2)).block, (ad253.add (((ji4)).toNat * 2)).off + 1, none⟩ = some (.int .i64 ((rd_T30 l0 (ji4)).f1)) ∧ w'.cell? (ad253.add ((a1).toNat * 2)) = some (.int .i64 ((rd_T30 l0 a1).f0)) ∧ w'.cell? ⟨(ad253.add ((a1).toNat * 2)).block, (ad253.add ((a1).toNat * 2)).off + 1, none⟩ = some (.int .i64 ((rd_T30 l0 a1).f1)) ∧ w'.cell? (ad253.add (((ji9)).toNat * 2)) = some (.int .i64 ((rd_T30 l0 (ji9)).f0)) ∧ w'.cell? ⟨(ad253.add (((ji9)).toNat * 2)).block, (ad253.add (((ji9)).toNat * 2)).off + 1, none⟩ = some (.int .i64 ((rd_T30 l0 (ji9)).f1))) ∧ (w'.heap[s_.1]? = some (.cells #[.int .i64 0, .int .i64 0] 30 (0, 0))) ∧ (w'.heap[s_.2]? = some (.cells #[.int .i64 0, .int .i64 0] 30 (0, 0))) ∧ (w.heap.size ≤ s_.1) ∧ (w.heap.size ≤ s_.1) ∧ (s_.2 ≠ s_.1) ∧ (s_.1 ≠ s_.2) ∧ (w.heap.size ≤ s_.2) ∧ (w.heap.size ≤ s_.2) ∧ (Below w.heap.size w w')) ?_ ?_
           rotate_left
           ·intro hJ20_22
            refine join_ (σ := Nat × Nat) 4 #[tT,tT,tT,tT,tT,tT,tT,tT,tT,tT,tT,tT,tT,tT,tT,tT,tT,tT,tT,tT,fF,tT,tT,fF,fF,fF] (fun s_ => [(7, .pointer (some ⟨s_.1, 0, none⟩)), (8, .pointer (some ⟨s_.2, 0, none⟩))]) (fun s_ w' => (w'.cell? (ad253.add (((ji4)).toNat * 2)) = some (.int .i64 ((rd_T30 l0 (ji4)).f0)) ∧ w'.cell? ⟨(ad253.add (((ji4)).toNat * 2)).block, (ad253.add (((ji4)).toNat * 2)).off + 1, none⟩ = some (.int .i64 ((rd_T30 l0 (ji4)).f1)) ∧ w'.cell? (ad253.add ((a1).toNat * 2)) = some (.int .i64 ((rd_T30 l0 a1).f0)) ∧ w'.cell? ⟨(ad253.add ((a1).toNat * 2)).block, (ad253.add ((a1).toNat * 2)).off + 1, none⟩ = some (.int .i64 ((rd_T30 l0 a1).f1)) ∧ w'.cell? (ad253.add (((ji9)).toNat * 2)) = some (.int .i64 ((rd_T30 l0 (ji9)).f0)) ∧ w'.cell? ⟨(ad253.add (((ji9)).toNat * 2)).block, (ad253.add (((ji9)).toNat * 2)).off + 1, none⟩ = some (.int .i64 ((rd_T30 l0 (ji9)).f1))) ∧ (w'.heap[s_.1]? = some (.cells #[.int .i64 0, .int .i64 0] 30 (0, 0))) ∧ (w'.heap[s_.2]? = some (.cells #[.int .i64 0, .int .i64 0] 30 (0, 0))) ∧ (w.heap.size ≤ s_.1) ∧ (w.heap.size ≤ s_.1) ∧ (s_.2 ≠ s_.1) ∧ (s_.1 ≠ s_.2) ∧ (w.heap.size ≤ s_.2) ∧ (w.heap.size ≤ s_.2) ∧ (Below w.heap.size w w')) ?_ ?_
            rotate_left
            ·intro hJ21_22
             refine join_ (σ := Nat) 5 #[tT,tT,tT,tT,tT,tT,tT,tT,tT,tT,tT,tT,tT,tT,tT,tT,tT,tT,tT,tT,tT,fF,fF,fF,fF,fF] (fun s_ => [(6, .pointer (some ⟨s_, 0, none⟩))]) (fun s_ w' => (w'.cell? (ad253.add (((ji4)).toNat * 2)) = some (.int .i64 ((rd_T30 l0 (ji4)).f0)) ∧ w'.cell? ⟨(ad253.add (((ji4)).toNat * 2)).block, (ad253.add (((ji4)).toNat * 2)).off + 1, none⟩ = some (.int .i64 ((rd_T30 l0 (ji4)).f1)) ∧ w'.cell? (ad253.add ((a1).toNat * 2)) = some (.int .i64 ((rd_T30 l0 a1).f0)) ∧ w'.cell? ⟨(ad253.add ((a1).toNat * 2)).block, (ad253.add ((a1).toNat * 2)).off + 1, none⟩ = some (.int .i64 ((rd_T30 l0 a1).f1)) ∧ w'.cell? (ad253.add (((ji9)).toNat * 2)) = some (.int .i64 ((rd_T30 l0 (ji9)).f0)) ∧ w'.cell? ⟨(ad253.add (((ji9)).toNat * 2)).block, (ad253.add (((ji9)).toNat * 2)).off + 1, none⟩ = some (.int .i64 ((rd_T30 l0 (ji9)).f1))) ∧ (w'.heap[s_]? = some (.cells #[.int .i64 0, .int .i64 0] 30 (0, 0))) ∧ (w.heap.size ≤ s_) ∧ (w.heap.size ≤ s_) ∧ (Below w.heap.size w w')) ?_ ?_
             rotate_left
             ·intro hJ20
              refine join_ (σ := Nat) 5 #[tT,tT,tT,tT,tT,tT,tT,tT,tT,tT,tT,tT,tT,tT,tT,tT,tT,tT,tT,tT,fF,tT,fF,fF,fF,fF] (fun s_ => [(7, .pointer (some ⟨s_, 0, none⟩))]) (fun s_ w' => (w'.cell? (ad253.add (((ji4)).toNat * 2)) = some (.int .i64 ((rd_T30 l0 (ji4)).f0)) ∧ w'.cell? ⟨(ad253.add (((ji4)).toNat * 2)).block, (ad253.add (((ji4)).toNat * 2)).off + 1, none⟩ = some (.int .i64 ((rd_T30 l0 (ji4)).f1)) ∧ w'.cell? (ad253.add ((a1).toNat * 2)) = some (.int .i64 ((rd_T30 l0 a1).f0)) ∧ w'.cell? ⟨(ad253.add ((a1).toNat * 2)).block, (ad253.add ((a1).toNat * 2)).off + 1, none⟩ = some (.int .i64 ((rd_T30 l0 a1).f1)) ∧ w'.cell? (ad253.add (((ji9)).toNat * 2)) = some (.int .i64 ((rd_T30 l0 (ji9)).f0)) ∧ w'.cell? ⟨(ad253.add (((ji9)).toNat * 2)).block, (ad253.add (((ji9)).toNat * 2)).off + 1, none⟩ = some (.int .i64 ((rd_T30 l0 (ji9)).f1))) ∧ (w'.heap[s_]? = some (.cells #[.int .i64 0, .int .i64 0] 30 (0, 0))) ∧ (w.heap.size ≤ s_) ∧ (w.heap.size ≤ s_) ∧ (Below w.heap.size w w')) ?_ ?_
              rotate_left
              ·intro hJ21
               refine join_ (σ := Nat) 5 #[tT,tT,tT,tT,tT,tT,tT,tT,tT,tT,tT,tT,tT,tT,tT,tT,tT,tT,tT,tT,fF,fF,tT,fF,fF,fF] (fun s_ => [(8, .pointer (some ⟨s_, 0, none⟩))]) (fun s_ w' => (w'.cell? (ad253.add (((ji4)).toNat * 2)) = some (.int .i64 ((rd_T30 l0 (ji4)).f0)) ∧ w'.cell? ⟨(ad253.add (((ji4)).toNat * 2)).block, (ad253.add (((ji4)).toNat * 2)).off + 1, none⟩ = some (.int .i64 ((rd_T30 l0 (ji4)).f1)) ∧ w'.cell? (ad253.add ((a1).toNat * 2)) = some (.int .i64 ((rd_T30 l0 a1).f0)) ∧ w'.cell? ⟨(ad253.add ((a1).toNat * 2)).block, (ad253.add ((a1).toNat * 2)).off + 1, none⟩ = some (.int .i64 ((rd_T30 l0 a1).f1)) ∧ w'.cell? (ad253.add (((ji9)).toNat * 2)) = some (.int .i64 ((rd_T30 l0 (ji9)).f0)) ∧ w'.cell? ⟨(ad253.add (((ji9)).toNat * 2)).block, (ad253.add (((ji9)).toNat * 2)).off + 1, none⟩ = some (.int .i64 ((rd_T30 l0 (ji9)).f1))) ∧ (w'.heap[s_]? = some (.cells #[.int .i64 0, .int .i64 0] 30 (0, 0))) ∧ (w.heap.size ≤ s_) ∧ (w.heap.size ≤ s_) ∧ (Below w.heap.size w w')) ?_ ?_
               rotate_left
               ·intro hJ22
                refine three_ (i := 20) (j := 21) (k := 22) (Ni := some 6) (Nj := some 7) (Nk := some 8) #[tT,tT,tT,tT,tT,tT,tT,tT,tT,tT,tT,tT,tT,tT,tT,tT,tT,tT,tT,tT,tT,fF,fF,fF,fF,fF] #[tT,tT,tT,tT,tT,tT,tT,tT,tT,tT,tT,tT,tT,tT,tT,tT,tT,tT,tT,tT,fF,tT,fF,fF,fF,fF] #[tT,tT,tT,tT,tT,tT,tT,tT,tT,tT,tT,tT,tT,tT,tT,tT,tT,tT,tT,tT,fF,fF,tT,fF,fF,fF] rfl rfl rfl rfl rfl rfl (three_of HT_.out (by kernel_rfl)) (by decide) (by decide) (by decide) (fun K hK => ?_) (fun K hK => ?_) (fun K hK => ?_)
                ·skip
                 refine box_step ?hg (N := 6) ?hd (cs := #[.int .i64 0, .int .i64 0]) (t := 30) ?hr ?_; (case hd => rfl); (case hg => rfl); (case hr => first | (go_simp; done) | (go_simp; rfl))
                 intro gb256 hg w15 hbox hb
                 have n0_ := sb hb
                 have n1_ := Aside0.mk (hbox)
                 have n2_ := zb hg
                 have n3_ := zb hg
                 clear HB
                 have HB := n0_
                 have BK256 := n1_
                 have GW256 := n2_
                 have GE256 := n3_
                 clear n0_ n1_ n2_ n3_
                 clear hb hbox hg
                 refine hK.out _ _ ⟨((HB.out.cell (bL w _ hw253_0)).trans hw253_0), ((HB.out.cell (bL w _ hw253_1)).trans hw253_1), ((HB.out.cell (bL w _ hw254_0)).trans hw254_0), ((HB.out.cell (bL w _ hw254_1)).trans hw254_1), ((HB.out.cell (bL w _ hw255_0)).trans hw255_0), ((HB.out.cell (bL w _ hw255_1)).trans hw255_1)⟩ (fun hHeld => ?_)
                 clear hK K
                 refine norm_ (a' := ?_) ?_ ?_
                 rotate_left
                 ·show Act.put _ (some 6) _ = _
                  simp only [Act.put, List.setIfInBounds_toArray, List.set_cons_zero, List.set_cons_succ, i64_w, i32_w]
                  rfl
                 exact norm_ (by first | (simp only [putAll, Act.put, List.setIfInBounds_toArray, List.set_cons_zero, List.set_cons_succ]; done) | (simp only [putAll, Act.put, List.setIfInBounds_toArray, List.set_cons_zero, List.set_cons_succ]; rfl)) (hJ20 (gb256) _ ⟨hHeld, (bk BK256), GW256.out, GE256.out, ib⟩)
                ·skip
                 refine box_step ?hg (N := 7) ?hd (cs := #[.int .i64 0, .int .i64 0]) (t := 30) ?hr ?_; (case hd => rfl); (case hg => rfl); (case hr => first | (go_simp; done) | (go_simp; rfl))
                 intro gb257 hg w15 hbox hb
                 have n0_ := sb hb
                 have n1_ := Aside0.mk (hbox)
                 have n2_ := zb hg
                 have n3_ := zb hg
                 clear HB
                 have HB := n0_
                 have BK257 := n1_
                 have GW257 := n2_
                 have GE257 := n3_
                 clear n0_ n1_ n2_ n3_
                 clear hb hbox hg
                 refine hK.out _ _ ⟨((HB.out.cell (bL w _ hw253_0)).trans hw253_0), ((HB.out.cell (bL w _ hw253_1)).trans hw253_1), ((HB.out.cell (bL w _ hw254_0)).trans hw254_0), ((HB.out.cell (bL w _ hw254_1)).trans hw254_1), ((HB.out.cell (bL w _ hw255_0)).trans hw255_0), ((HB.out.cell (bL w _ hw255_1)).trans hw255_1)⟩ (fun hHeld => ?_)
                 clear hK K
                 refine norm_ (a' := ?_) ?_ ?_
                 rotate_left
                 ·show Act.put _ (some 7) _ = _
                  simp only [Act.put, List.setIfInBounds_toArray, List.set_cons_zero, List.set_cons_succ, i64_w, i32_w]
                  rfl
                 exact norm_ (by first | (simp only [putAll, Act.put, List.setIfInBounds_toArray, List.set_cons_zero, List.set_cons_succ]; done) | (simp only [putAll, Act.put, List.setIfInBounds_toArray, List.set_cons_zero, List.set_cons_succ]; rfl)) (hJ21 (gb257) _ ⟨hHeld, (bk BK257), GW257.out, GE257.out, ib⟩)
                ·skip
                 refine box_step ?hg (N := 8) ?hd (cs := #[.int .i64 0, .int .i64 0]) (t := 30) ?hr ?_; (case hd => rfl); (case hg => rfl); (case hr => first | (go_simp; done) | (go_simp; rfl))
                 intro gb258 hg w15 hbox hb
                 have n0_ := sb hb
                 have n1_ := Aside0.mk (hbox)
                 have n2_ := zb hg
                 have n3_ := zb hg
                 clear HB
                 have HB := n0_
                 have BK258 := n1_
                 have GW258 := n2_
                 have GE258 := n3_
                 clear n0_ n1_ n2_ n3_
                 clear hb hbox hg
                 refine hK.out _ _ ⟨((HB.out.cell (bL w _ hw253_0)).trans hw253_0), ((HB.out.cell (bL w _ hw253_1)).trans hw253_1), ((HB.out.cell (bL w _ hw254_0)).trans hw254_0), ((HB.out.cell (bL w _ hw254_1)).trans hw254_1), ((HB.out.cell (bL w _ hw255_0)).trans hw255_0), ((HB.out.cell (bL w _ hw255_1)).trans hw255_1)⟩ (fun hHeld => ?_)
                 clear hK K
                 refine norm_ (a' := ?_) ?_ ?_
                 rotate_left
                 ·show Act.put _ (some 8) _ = _
                  simp only [Act.put, List.setIfInBounds_toArray, List.set_cons_zero, List.set_cons_succ, i64_w, i32_w]
                  rfl
                 exact norm_ (by first | (simp only [putAll, Act.put, List.setIfInBounds_toArray, List.set_cons_zero, List.set_cons_succ]; done) | (simp only [putAll, Act.put, List.setIfInBounds_toArray, List.set_cons_zero, List.set_cons_succ]; rfl)) (hJ22 (gb258) _ ⟨hHeld, (bk BK258), GW258.out, GE258.out, ib⟩)
               ·skip
                rintro gb258 w16 ⟨hS_, h0_, h1_, h2_, h3_⟩
                have n0_ : Aside0 (w16.heap[gb258]? = some (.cells #[.int .i64 0, .int .i64 0] 30 (0, 0))) := ⟨h0_⟩
                have n1_ : Aside0 (w.heap.size ≤ gb258) := ⟨h1_⟩
                have n2_ : Aside0 (w.heap.size ≤ gb258) := ⟨h2_⟩
                have n3_ : Aside0 (Below w.heap.size w w16) := ⟨h3_⟩
                clear HB
                clear h0_ h1_ h2_ h3_
                have BK258 := n0_
                have GW258 := n1_
                have GE258 := n2_
                have HB := n3_
                clear n0_ n1_ n2_ n3_
                have hHeld : w16.cell? (ad253.add (((ji4)).toNat * 2)) = some (.int .i64 ((rd_T30 l0 (ji4)).f0)) ∧ w16.cell? ⟨(ad253.add (((ji4)).toNat * 2)).block, (ad253.add (((ji4)).toNat * 2)).off + 1, none⟩ = some (.int .i64 ((rd_T30 l0 (ji4)).f1)) ∧ w16.cell? (ad253.add ((a1).toNat * 2)) = some (.int .i64 ((rd_T30 l0 a1).f0)) ∧ w16.cell? ⟨(ad253.add ((a1).toNat * 2)).block, (ad253.add ((a1).toNat * 2)).off + 1, none⟩ = some (.int .i64 ((rd_T30 l0 a1).f1)) ∧ w16.cell? (ad253.add (((ji9)).toNat * 2)) = some (.int .i64 ((rd_T30 l0 (ji9)).f0)) ∧ w16.cell? ⟨(ad253.add (((ji9)).toNat * 2)).block, (ad253.add (((ji9)).toNat * 2)).off + 1, none⟩ = some (.int .i64 ((rd_T30 l0 (ji9)).f1)) := hS_
                refine norm_ (a' := ?_) ?_ ?_
                rotate_left
                ·simp only [putAll, Act.put, List.setIfInBounds_toArray, List.set_cons_zero, List.set_cons_succ]
                 rfl
                refine two_ (i := 20) (j := 21) (Ni := some 6) (Nj := some 7) #[tT,tT,tT,tT,tT,tT,tT,tT,tT,tT,tT,tT,tT,tT,tT,tT,tT,tT,tT,tT,tT,fF,tT,fF,fF,fF] #[tT,tT,tT,tT,tT,tT,tT,tT,tT,tT,tT,tT,tT,tT,tT,tT,tT,tT,tT,tT,fF,tT,tT,fF,fF,fF] rfl rfl rfl rfl (two_of HT_.out (by kernel_rfl)) (by decide) (by decide) (fun K hK => ?_) (fun K hK => ?_)
                ·skip
                 refine box_step ?hg (N := 6) ?hd (cs := #[.int .i64 0, .int .i64 0]) (t := 30) ?hr ?_; (case hd => rfl); (case hg => rfl); (case hr => first | (go_simp; done) | (go_simp; rfl))
                 intro gb256 hg w17 hbox hb
                 have n0_ := kb BK258 hb
                 have n1_ := sb hb
                 have n2_ := Aside0.mk (hbox)
                 have n3_ := zb hg
                 have n4_ := zb hg
                 have n5_ := nl BK258 hg
                 have n6_ := ng BK258 hg
                 clear BK258
                 clear HB
                 have BK258 := n0_
                 have HB := n1_
                 have BK256 := n2_
                 have GW256 := n3_
                 have GE256 := n4_
                 have NB258_256 := n5_
                 have NB256_258 := n6_
                 clear n0_ n1_ n2_ n3_ n4_ n5_ n6_
                 clear hb hbox hg
                 refine hK.out _ _ ⟨((HB.out.cell (bL w _ hw253_0)).trans hw253_0), ((HB.out.cell (bL w _ hw253_1)).trans hw253_1), ((HB.out.cell (bL w _ hw254_0)).trans hw254_0), ((HB.out.cell (bL w _ hw254_1)).trans hw254_1), ((HB.out.cell (bL w _ hw255_0)).trans hw255_0), ((HB.out.cell (bL w _ hw255_1)).trans hw255_1)⟩ (fun hHeld => ?_)
                 clear hK K
                 refine norm_ (a' := ?_) ?_ ?_
                 rotate_left
                 ·show Act.put _ (some 6) _ = _
                  simp only [Act.put, List.setIfInBounds_toArray, List.set_cons_zero, List.set_cons_succ, i64_w, i32_w]
                  rfl
                 exact norm_ (by first | (simp only [putAll, Act.put, List.setIfInBounds_toArray, List.set_cons_zero, List.set_cons_succ]; done) | (simp only [putAll, Act.put, List.setIfInBounds_toArray, List.set_cons_zero, List.set_cons_succ]; rfl)) (hJ20_22 (gb256, gb258) _ ⟨hHeld, (bk BK256), (bk BK258), GW256.out, GE256.out, NB258_256.out, NB256_258.out, GW258.out, GE258.out, ib⟩)
                ·skip
                 refine box_step ?hg (N := 7) ?hd (cs := #[.int .i64 0, .int .i64 0]) (t := 30) ?hr ?_; (case hd => rfl); (case hg => rfl); (case hr => first | (go_simp; done) | (go_simp; rfl))
                 intro gb257 hg w17 hbox hb
                 have n0_ := kb BK258 hb
                 have n1_ := sb hb
                 have n2_ := Aside0.mk (hbox)
                 have n3_ := zb hg
                 have n4_ := zb hg
                 have n5_ := nl BK258 hg
                 have n6_ := ng BK258 hg
                 clear BK258
                 clear HB
                 have BK258 := n0_
                 have HB := n1_
                 have BK257 := n2_
                 have GW257 := n3_
                 have GE257 := n4_
                 have NB258_257 := n5_
                 have NB257_258 := n6_
                 clear n0_ n1_ n2_ n3_ n4_ n5_ n6_
                 clear hb hbox hg
                 refine hK.out _ _ ⟨((HB.out.cell (bL w _ hw253_0)).trans hw253_0), ((HB.out.cell (bL w _ hw253_1)).trans hw253_1), ((HB.out.cell (bL w _ hw254_0)).trans hw254_0), ((HB.out.cell (bL w _ hw254_1)).trans hw254_1), ((HB.out.cell (bL w _ hw255_0)).trans hw255_0), ((HB.out.cell (bL w _ hw255_1)).trans hw255_1)⟩ (fun hHeld => ?_)
                 clear hK K
                 refine norm_ (a' := ?_) ?_ ?_
                 rotate_left
                 ·show Act.put _ (some 7) _ = _
                  simp only [Act.put, List.setIfInBounds_toArray, List.set_cons_zero, List.set_cons_succ, i64_w, i32_w]
                  rfl
                 exact norm_ (by first | (simp only [putAll, Act.put, List.setIfInBounds_toArray, List.set_cons_zero, List.set_cons_succ]; done) | (simp only [putAll, Act.put, List.setIfInBounds_toArray, List.set_cons_zero, List.set_cons_succ]; rfl)) (hJ21_22 (gb257, gb258) _ ⟨hHeld, (bk BK257), (bk BK258), GW257.out, GE257.out, NB258_257.out, NB257_258.out, GW258.out, GE258.out, ib⟩)
              ·skip
               rintro gb257 w16 ⟨hS_, h0_, h1_, h2_, h3_⟩
               have n0_ : Aside0 (w16.heap[gb257]? = some (.cells #[.int .i64 0, .int .i64 0] 30 (0, 0))) := ⟨h0_⟩
               have n1_ : Aside0 (w.heap.size ≤ gb257) := ⟨h1_⟩
               have n2_ : Aside0 (w.heap.size ≤ gb257) := ⟨h2_⟩
               have n3_ : Aside0 (Below w.heap.size w w16) := ⟨h3_⟩
               clear HB
               clear h0_ h1_ h2_ h3_
               have BK257 := n0_
               have GW257 := n1_
               have GE257 := n2_
               have HB := n3_
               clear n0_ n1_ n2_ n3_
               have hHeld : w16.cell? (ad253.add (((ji4)).toNat * 2)) = some (.int .i64 ((rd_T30 l0 (ji4)).f0)) ∧ w16.cell? ⟨(ad253.add (((ji4)).toNat * 2)).block, (ad253.add (((ji4)).toNat * 2)).off + 1, none⟩ = some (.int .i64 ((rd_T30 l0 (ji4)).f1)) ∧ w16.cell? (ad253.add ((a1).toNat * 2)) = some (.int .i64 ((rd_T30 l0 a1).f0)) ∧ w16.cell? ⟨(ad253.add ((a1).toNat * 2)).block, (ad253.add ((a1).toNat * 2)).off + 1, none⟩ = some (.int .i64 ((rd_T30 l0 a1).f1)) ∧ w16.cell? (ad253.add (((ji9)).toNat * 2)) = some (.int .i64 ((rd_T30 l0 (ji9)).f0)) ∧ w16.cell? ⟨(ad253.add (((ji9)).toNat * 2)).block, (ad253.add (((ji9)).toNat * 2)).off + 1, none⟩ = some (.int .i64 ((rd_T30 l0 (ji9)).f1)) := hS_
               refine norm_ (a' := ?_) ?_ ?_
               rotate_left
               ·simp only [putAll, Act.put, List.setIfInBounds_toArray, List.set_cons_zero, List.set_cons_succ]
                rfl
               refine two_ (i := 20) (j := 22) (Ni := some 6) (Nj := some 8) #[tT,tT,tT,tT,tT,tT,tT,tT,tT,tT,tT,tT,tT,tT,tT,tT,tT,tT,tT,tT,tT,tT,fF,fF,fF,fF] #[tT,tT,tT,tT,tT,tT,tT,tT,tT,tT,tT,tT,tT,tT,tT,tT,tT,tT,tT,tT,fF,tT,tT,fF,fF,fF] rfl rfl rfl rfl (two_of HT_.out (by kernel_rfl)) (by decide) (by decide) (fun K hK => ?_) (fun K hK => ?_)
               ·skip
                refine box_step ?hg (N := 6) ?hd (cs := #[.int .i64 0, .int .i64 0]) (t := 30) ?hr ?_; (case hd => rfl); (case hg => rfl); (case hr => first | (go_simp; done) | (go_simp; rfl))
                intro gb256 hg w17 hbox hb
                have n0_ := kb BK257 hb
                have n1_ := sb hb
                have n2_ := Aside0.mk (hbox)
                have n3_ := zb hg
                have n4_ := zb hg
                have n5_ := nl BK257 hg
                have n6_ := ng BK257 hg
                clear BK257
                clear HB
                have BK257 := n0_
                have HB := n1_
                have BK256 := n2_
                have GW256 := n3_
                have GE256 := n4_
                have NB257_256 := n5_
                have NB256_257 := n6_
                clear n0_ n1_ n2_ n3_ n4_ n5_ n6_
                clear hb hbox hg
                refine hK.out _ _ ⟨((HB.out.cell (bL w _ hw253_0)).trans hw253_0), ((HB.out.cell (bL w _ hw253_1)).trans hw253_1), ((HB.out.cell (bL w _ hw254_0)).trans hw254_0), ((HB.out.cell (bL w _ hw254_1)).trans hw254_1), ((HB.out.cell (bL w _ hw255_0)).trans hw255_0), ((HB.out.cell (bL w _ hw255_1)).trans hw255_1)⟩ (fun hHeld => ?_)
                clear hK K
                refine norm_ (a' := ?_) ?_ ?_
                rotate_left
                ·show Act.put _ (some 6) _ = _
                 simp only [Act.put, List.setIfInBounds_toArray, List.set_cons_zero, List.set_cons_succ, i64_w, i32_w]
                 rfl
                exact norm_ (by first | (simp only [putAll, Act.put, List.setIfInBounds_toArray, List.set_cons_zero, List.set_cons_succ]; done) | (simp only [putAll, Act.put, List.setIfInBounds_toArray, List.set_cons_zero, List.set_cons_succ]; rfl)) (hJ20_21 (gb256, gb257) _ ⟨hHeld, (bk BK256), (bk BK257), GW256.out, GE256.out, NB257_256.out, NB256_257.out, GW257.out, GE257.out, ib⟩)
               ·skip
                refine box_step ?hg (N := 8) ?hd (cs := #[.int .i64 0, .int .i64 0]) (t := 30) ?hr ?_; (case hd => rfl); (case hg => rfl); (case hr => first | (go_simp; done) | (go_simp; rfl))
                intro gb258 hg w17 hbox hb
                have n0_ := kb BK257 hb
                have n1_ := sb hb
                have n2_ := Aside0.mk (hbox)
                have n3_ := zb hg
                have n4_ := zb hg
                have n5_ := nl BK257 hg
                have n6_ := ng BK257 hg
                clear BK257
                clear HB
                have BK257 := n0_
                have HB := n1_
                have BK258 := n2_
                have GW258 := n3_
                have GE258 := n4_
                have NB257_258 := n5_
                have NB258_257 := n6_
                clear n0_ n1_ n2_ n3_ n4_ n5_ n6_
                clear hb hbox hg
                refine hK.out _ _ ⟨((HB.out.cell (bL w _ hw253_0)).trans hw253_0), ((HB.out.cell (bL w _ hw253_1)).trans hw253_1), ((HB.out.cell (bL w _ hw254_0)).trans hw254_0), ((HB.out.cell (bL w _ hw254_1)).trans hw254_1), ((HB.out.cell (bL w _ hw255_0)).trans hw255_0), ((HB.out.cell (bL w _ hw255_1)).trans hw255_1)⟩ (fun hHeld => ?_)
                clear hK K
                refine norm_ (a' := ?_) ?_ ?_
                rotate_left
                ·show Act.put _ (some 8) _ = _
                 simp only [Act.put, List.setIfInBounds_toArray, List.set_cons_zero, List.set_cons_succ, i64_w, i32_w]
                 rfl
                exact norm_ (by first | (simp only [putAll, Act.put, List.setIfInBounds_toArray, List.set_cons_zero, List.set_cons_succ]; done) | (simp only [putAll, Act.put, List.setIfInBounds_toArray, List.set_cons_zero, List.set_cons_succ]; rfl)) (hJ21_22 (gb257, gb258) _ ⟨hHeld, (bk BK257), (bk BK258), GW257.out, GE257.out, NB258_257.out, NB257_258.out, GW258.out, GE258.out, ib⟩)
             ·skip
              rintro gb256 w16 ⟨hS_, h0_, h1_, h2_, h3_⟩
              have n0_ : Aside0 (w16.heap[gb256]? = some (.cells #[.int .i64 0, .int .i64 0] 30 (0, 0))) := ⟨h0_⟩
              have n1_ : Aside0 (w.heap.size ≤ gb256) := ⟨h1_⟩
              have n2_ : Aside0 (w.heap.size ≤ gb256) := ⟨h2_⟩
              have n3_ : Aside0 (Below w.heap.size w w16) := ⟨h3_⟩
              clear HB
              clear h0_ h1_ h2_ h3_
              have BK256 := n0_
              have GW256 := n1_
              have GE256 := n2_
              have HB := n3_
              clear n0_ n1_ n2_ n3_
              have hHeld : w16.cell? (ad253.add (((ji4)).toNat * 2)) = some (.int .i64 ((rd_T30 l0 (ji4)).f0)) ∧ w16.cell? ⟨(ad253.add (((ji4)).toNat * 2)).block, (ad253.add (((ji4)).toNat * 2)).off + 1, none⟩ = some (.int .i64 ((rd_T30 l0 (ji4)).f1)) ∧ w16.cell? (ad253.add ((a1).toNat * 2)) = some (.int .i64 ((rd_T30 l0 a1).f0)) ∧ w16.cell? ⟨(ad253.add ((a1).toNat * 2)).block, (ad253.add ((a1).toNat * 2)).off + 1, none⟩ = some (.int .i64 ((rd_T30 l0 a1).f1)) ∧ w16.cell? (ad253.add (((ji9)).toNat * 2)) = some (.int .i64 ((rd_T30 l0 (ji9)).f0)) ∧ w16.cell? ⟨(ad253.add (((ji9)).toNat * 2)).block, (ad253.add (((ji9)).toNat * 2)).off + 1, none⟩ = some (.int .i64 ((rd_T30 l0 (ji9)).f1)) := hS_
              refine norm_ (a' := ?_) ?_ ?_
              rotate_left
              ·simp only [putAll, Act.put, List.setIfInBounds_toArray, List.set_cons_zero, List.set_cons_succ]
               rfl
              refine two_ (i := 21) (j := 22) (Ni := some 7) (Nj := some 8) #[tT,tT,tT,tT,tT,tT,tT,tT,tT,tT,tT,tT,tT,tT,tT,tT,tT,tT,tT,tT,tT,tT,fF,fF,fF,fF] #[tT,tT,tT,tT,tT,tT,tT,tT,tT,tT,tT,tT,tT,tT,tT,tT,tT,tT,tT,tT,tT,fF,tT,fF,fF,fF] rfl rfl rfl rfl (two_of HT_.out (by kernel_rfl)) (by decide) (by decide) (fun K hK => ?_) (fun K hK => ?_)
              ·skip
               refine box_step ?hg (N := 7) ?hd (cs := #[.int .i64 0, .int .i64 0]) (t := 30) ?hr ?_; (case hd => rfl); (case hg => rfl); (case hr => first | (go_simp; done) | (go_simp; rfl))
               intro gb257 hg w17 hbox hb
               have n0_ := kb BK256 hb
               have n1_ := sb hb
               have n2_ := Aside0.mk (hbox)
               have n3_ := zb hg
               have n4_ := zb hg
               have n5_ := nl BK256 hg
               have n6_ := ng BK256 hg
               clear BK256
               clear HB
               have BK256 := n0_
               have HB := n1_
               have BK257 := n2_
               have GW257 := n3_
               have GE257 := n4_
               have NB256_257 := n5_
               have NB257_256 := n6_
               clear n0_ n1_ n2_ n3_ n4_ n5_ n6_
               clear hb hbox hg
               refine hK.out _ _ ⟨((HB.out.cell (bL w _ hw253_0)).trans hw253_0), ((HB.out.cell (bL w _ hw253_1)).trans hw253_1), ((HB.out.cell (bL w _ hw254_0)).trans hw254_0), ((HB.out.cell (bL w _ hw254_1)).trans hw254_1), ((HB.out.cell (bL w _ hw255_0)).trans hw255_0), ((HB.out.cell (bL w _ hw255_1)).trans hw255_1)⟩ (fun hHeld => ?_)
               clear hK K
               refine norm_ (a' := ?_) ?_ ?_
               rotate_left
               ·show Act.put _ (some 7) _ = _
                simp only [Act.put, List.setIfInBounds_toArray, List.set_cons_zero, List.set_cons_succ, i64_w, i32_w]
                rfl
               exact norm_ (by first | (simp only [putAll, Act.put, List.setIfInBounds_toArray, List.set_cons_zero, List.set_cons_succ]; done) | (simp only [putAll, Act.put, List.setIfInBounds_toArray, List.set_cons_zero, List.set_cons_succ]; rfl)) (hJ20_21 (gb256, gb257) _ ⟨hHeld, (bk BK256), (bk BK257), GW256.out, GE256.out, NB257_256.out, NB256_257.out, GW257.out, GE257.out, ib⟩)
              ·skip
               refine box_step ?hg (N := 8) ?hd (cs := #[.int .i64 0, .int .i64 0]) (t := 30) ?hr ?_; (case hd => rfl); (case hg => rfl); (case hr => first | (go_simp; done) | (go_simp; rfl))
               intro gb258 hg w17 hbox hb
               have n0_ := kb BK256 hb
               have n1_ := sb hb
               have n2_ := Aside0.mk (hbox)
               have n3_ := zb hg
               have n4_ := zb hg
               have n5_ := nl BK256 hg
               have n6_ := ng BK256 hg
               clear BK256
               clear HB
               have BK256 := n0_
               have HB := n1_
               have BK258 := n2_
               have GW258 := n3_
               have GE258 := n4_
               have NB256_258 := n5_
               have NB258_256 := n6_
               clear n0_ n1_ n2_ n3_ n4_ n5_ n6_
               clear hb hbox hg
               refine hK.out _ _ ⟨((HB.out.cell (bL w _ hw253_0)).trans hw253_0), ((HB.out.cell (bL w _ hw253_1)).trans hw253_1), ((HB.out.cell (bL w _ hw254_0)).trans hw254_0), ((HB.out.cell (bL w _ hw254_1)).trans hw254_1), ((HB.out.cell (bL w _ hw255_0)).trans hw255_0), ((HB.out.cell (bL w _ hw255_1)).trans hw255_1)⟩ (fun hHeld => ?_)
               clear hK K
               refine norm_ (a' := ?_) ?_ ?_
               rotate_left
               ·show Act.put _ (some 8) _ = _
                simp only [Act.put, List.setIfInBounds_toArray, List.set_cons_zero, List.set_cons_succ, i64_w, i32_w]
                rfl
               exact norm_ (by first | (simp only [putAll, Act.put, List.setIfInBounds_toArray, List.set_cons_zero, List.set_cons_succ]; done) | (simp only [putAll, Act.put, List.setIfInBounds_toArray, List.set_cons_zero, List.set_cons_succ]; rfl)) (hJ20_22 (gb256, gb258) _ ⟨hHeld, (bk BK256), (bk BK258), GW256.out, GE256.out, NB258_256.out, NB256_258.out, GW258.out, GE258.out, ib⟩)
            ·skip
             rintro ⟨gb257, gb258⟩ w17 ⟨hS_, h0_, h1_, h2_, h3_, h4_, h5_, h6_, h7_, h8_⟩
             have n0_ : Aside0 (w17.heap[gb257]? = some (.cells #[.int .i64 0, .int .i64 0] 30 (0, 0))) := ⟨h0_⟩
             have n1_ : Aside0 (w17.heap[gb258]? = some (.cells #[.int .i64 0, .int .i64 0] 30 (0, 0))) := ⟨h1_⟩
             have n2_ : Aside0 (w.heap.size ≤ gb257) := ⟨h2_⟩
             have n3_ : Aside0 (w.heap.size ≤ gb257) := ⟨h3_⟩
             have n4_ : Aside0 (gb258 ≠ gb257) := ⟨h4_⟩
             have n5_ : Aside0 (gb257 ≠ gb258) := ⟨h5_⟩
             have n6_ : Aside0 (w.heap.size ≤ gb258) := ⟨h6_⟩
             have n7_ : Aside0 (w.heap.size ≤ gb258) := ⟨h7_⟩
             have n8_ : Aside0 (Below w.heap.size w w17) := ⟨h8_⟩
             clear HB
             clear h0_ h1_ h2_ h3_ h4_ h5_ h6_ h7_ h8_
             have BK257 := n0_
             have BK258 := n1_
             have GW257 := n2_
             have GE257 := n3_
             have NB258_257 := n4_
             have NB257_258 := n5_
             have GW258 := n6_
             have GE258 := n7_
             have HB := n8_
             clear n0_ n1_ n2_ n3_ n4_ n5_ n6_ n7_ n8_
             have hHeld : w17.cell? (ad253.add (((ji4)).toNat * 2)) = some (.int .i64 ((rd_T30 l0 (ji4)).f0)) ∧ w17.cell? ⟨(ad253.add (((ji4)).toNat * 2)).block, (ad253.add (((ji4)).toNat * 2)).off + 1, none⟩ = some (.int .i64 ((rd_T30 l0 (ji4)).f1)) ∧ w17.cell? (ad253.add ((a1).toNat * 2)) = some (.int .i64 ((rd_T30 l0 a1).f0)) ∧ w17.cell? ⟨(ad253.add ((a1).toNat * 2)).block, (ad253.add ((a1).toNat * 2)).off + 1, none⟩ = some (.int .i64 ((rd_T30 l0 a1).f1)) ∧ w17.cell? (ad253.add (((ji9)).toNat * 2)) = some (.int .i64 ((rd_T30 l0 (ji9)).f0)) ∧ w17.cell? ⟨(ad253.add (((ji9)).toNat * 2)).block, (ad253.add (((ji9)).toNat * 2)).off + 1, none⟩ = some (.int .i64 ((rd_T30 l0 (ji9)).f1)) := hS_
             refine norm_ (a' := ?_) ?_ ?_
             rotate_left
             ·simp only [putAll, Act.put, List.setIfInBounds_toArray, List.set_cons_zero, List.set_cons_succ]
              rfl
             refine one_ (i := 20) (N := some 6) #[tT,tT,tT,tT,tT,tT,tT,tT,tT,tT,tT,tT,tT,tT,tT,tT,tT,tT,tT,tT,tT,tT,tT,fF,fF,fF] rfl rfl (one_of HT_.out (by kernel_rfl)) (by decide) (fun K hK => ?_)
             refine box_step ?hg (N := 6) ?hd (cs := #[.int .i64 0, .int .i64 0]) (t := 30) ?hr ?_; (case hd => rfl); (case hg => rfl); (case hr => first | (go_simp; done) | (go_simp; rfl))
             intro gb256 hg w18 hbox hb
             have n0_ := kb BK257 hb
             have n1_ := kb BK258 hb
             have n2_ := sb hb
             have n3_ := Aside0.mk (hbox)
             have n4_ := zb hg
             have n5_ := zb hg
             have n6_ := nl BK257 hg
             have n7_ := ng BK257 hg
             have n8_ := nl BK258 hg
             have n9_ := ng BK258 hg
             clear BK257
             clear BK258
             clear HB
             have BK257 := n0_
             have BK258 := n1_
             have HB := n2_
             have BK256 := n3_
             have GW256 := n4_
             have GE256 := n5_
             have NB257_256 := n6_
             have NB256_257 := n7_
             have NB258_256 := n8_
             have NB256_258 := n9_
             clear n0_ n1_ n2_ n3_ n4_ n5_ n6_ n7_ n8_ n9_
             clear hb hbox hg
             refine hK.out _ _ ⟨((HB.out.cell (bL w _ hw253_0)).trans hw253_0), ((HB.out.cell (bL w _ hw253_1)).trans hw253_1), ((HB.out.cell (bL w _ hw254_0)).trans hw254_0), ((HB.out.cell (bL w _ hw254_1)).trans hw254_1), ((HB.out.cell (bL w _ hw255_0)).trans hw255_0), ((HB.out.cell (bL w _ hw255_1)).trans hw255_1)⟩ (fun hHeld => ?_)
             clear hK K
             refine norm_ (a' := ?_) ?_ ?_
             rotate_left
             ·show Act.put _ (some 6) _ = _
              simp only [Act.put, List.setIfInBounds_toArray, List.set_cons_zero, List.set_cons_succ, i64_w, i32_w]
              rfl
             exact norm_ (by first | (simp only [putAll, Act.put, List.setIfInBounds_toArray, List.set_cons_zero, List.set_cons_succ]; done) | (simp only [putAll, Act.put, List.setIfInBounds_toArray, List.set_cons_zero, List.set_cons_succ]; rfl)) (hJ20_21_22 (gb256, gb257, gb258) _ ⟨hHeld, (bk BK256), (bk BK257), (bk BK258), GW256.out, GE256.out, NB257_256.out, NB256_257.out, NB258_256.out, NB256_258.out, GW257.out, GE257.out, NB258_257.out, NB257_258.out, GW258.out, GE258.out, ib⟩)
           ·skip
            rintro ⟨gb256, gb258⟩ w17 ⟨hS_, h0_, h1_, h2_, h3_, h4_, h5_, h6_, h7_, h8_⟩
            have n0_ : Aside0 (w17.heap[gb256]? = some (.cells #[.int .i64 0, .int .i64 0] 30 (0, 0))) := ⟨h0_⟩
            have n1_ : Aside0 (w17.heap[gb258]? = some (.cells #[.int .i64 0, .int .i64 0] 30 (0, 0))) := ⟨h1_⟩
            have n2_ : Aside0 (w.heap.size ≤ gb256) := ⟨h2_⟩
            have n3_ : Aside0 (w.heap.size ≤ gb256) := ⟨h3_⟩
            have n4_ : Aside0 (gb258 ≠ gb256) := ⟨h4_⟩
            have n5_ : Aside0 (gb256 ≠ gb258) := ⟨h5_⟩
            have n6_ : Aside0 (w.heap.size ≤ gb258) := ⟨h6_⟩
            have n7_ : Aside0 (w.heap.size ≤ gb258) := ⟨h7_⟩
            have n8_ : Aside0 (Below w.heap.size w w17) := ⟨h8_⟩
            clear HB
            clear h0_ h1_ h2_ h3_ h4_ h5_ h6_ h7_ h8_
            have BK256 := n0_
            have BK258 := n1_
            have GW256 := n2_
            have GE256 := n3_
            have NB258_256 := n4_
            have NB256_258 := n5_
            have GW258 := n6_
            have GE258 := n7_
            have HB := n8_
            clear n0_ n1_ n2_ n3_ n4_ n5_ n6_ n7_ n8_
            have hHeld : w17.cell? (ad253.add (((ji4)).toNat * 2)) = some (.int .i64 ((rd_T30 l0 (ji4)).f0)) ∧ w17.cell? ⟨(ad253.add (((ji4)).toNat * 2)).block, (ad253.add (((ji4)).toNat * 2)).off + 1, none⟩ = some (.int .i64 ((rd_T30 l0 (ji4)).f1)) ∧ w17.cell? (ad253.add ((a1).toNat * 2)) = some (.int .i64 ((rd_T30 l0 a1).f0)) ∧ w17.cell? ⟨(ad253.add ((a1).toNat * 2)).block, (ad253.add ((a1).toNat * 2)).off + 1, none⟩ = some (.int .i64 ((rd_T30 l0 a1).f1)) ∧ w17.cell? (ad253.add (((ji9)).toNat * 2)) = some (.int .i64 ((rd_T30 l0 (ji9)).f0)) ∧ w17.cell? ⟨(ad253.add (((ji9)).toNat * 2)).block, (ad253.add (((ji9)).toNat * 2)).off + 1, none⟩ = some (.int .i64 ((rd_T30 l0 (ji9)).f1)) := hS_
            refine norm_ (a' := ?_) ?_ ?_
            rotate_left
            ·simp only [putAll, Act.put, List.setIfInBounds_toArray, List.set_cons_zero, List.set_cons_succ]
             rfl
            refine one_ (i := 21) (N := some 7) #[tT,tT,tT,tT,tT,tT,tT,tT,tT,tT,tT,tT,tT,tT,tT,tT,tT,tT,tT,tT,tT,tT,tT,fF,fF,fF] rfl rfl (one_of HT_.out (by kernel_rfl)) (by decide) (fun K hK => ?_)
            refine box_step ?hg (N := 7) ?hd (cs := #[.int .i64 0, .int .i64 0]) (t := 30) ?hr ?_; (case hd => rfl); (case hg => rfl); (case hr => first | (go_simp; done) | (go_simp; rfl))
            intro gb257 hg w18 hbox hb
            have n0_ := kb BK256 hb
            have n1_ := kb BK258 hb
            have n2_ := sb hb
            have n3_ := Aside0.mk (hbox)
            have n4_ := zb hg
            have n5_ := zb hg
            have n6_ := nl BK256 hg
            have n7_ := ng BK256 hg
            have n8_ := nl BK258 hg
            have n9_ := ng BK258 hg
            clear BK256
            clear BK258
            clear HB
            have BK256 := n0_
            have BK258 := n1_
            have HB := n2_
            have BK257 := n3_
            have GW257 := n4_
            have GE257 := n5_
            have NB256_257 := n6_
            have NB257_256 := n7_
            have NB258_257 := n8_
            have NB257_258 := n9_
            clear n0_ n1_ n2_ n3_ n4_ n5_ n6_ n7_ n8_ n9_
            clear hb hbox hg
            refine hK.out _ _ ⟨((HB.out.cell (bL w _ hw253_0)).trans hw253_0), ((HB.out.cell (bL w _ hw253_1)).trans hw253_1), ((HB.out.cell (bL w _ hw254_0)).trans hw254_0), ((HB.out.cell (bL w _ hw254_1)).trans hw254_1), ((HB.out.cell (bL w _ hw255_0)).trans hw255_0), ((HB.out.cell (bL w _ hw255_1)).trans hw255_1)⟩ (fun hHeld => ?_)
            clear hK K
            refine norm_ (a' := ?_) ?_ ?_
            rotate_left
            ·show Act.put _ (some 7) _ = _
             simp only [Act.put, List.setIfInBounds_toArray, List.set_cons_zero, List.set_cons_succ, i64_w, i32_w]
             rfl
            exact norm_ (by first | (simp only [putAll, Act.put, List.setIfInBounds_toArray, List.set_cons_zero, List.set_cons_succ]; done) | (simp only [putAll, Act.put, List.setIfInBounds_toArray, List.set_cons_zero, List.set_cons_succ]; rfl)) (hJ20_21_22 (gb256, gb257, gb258) _ ⟨hHeld, (bk BK256), (bk BK257), (bk BK258), GW256.out, GE256.out, NB257_256.out, NB256_257.out, NB258_256.out, NB256_258.out, GW257.out, GE257.out, NB258_257.out, NB257_258.out, GW258.out, GE258.out, ib⟩)
          ·skip
           rintro ⟨gb256, gb257⟩ w17 ⟨hS_, h0_, h1_, h2_, h3_, h4_, h5_, h6_, h7_, h8_⟩
           have n0_ : Aside0 (w17.heap[gb256]? = some (.cells #[.int .i64 0, .int .i64 0] 30 (0, 0))) := ⟨h0_⟩
           have n1_ : Aside0 (w17.heap[gb257]? = some (.cells #[.int .i64 0, .int .i64 0] 30 (0, 0))) := ⟨h1_⟩
           have n2_ : Aside0 (w.heap.size ≤ gb256) := ⟨h2_⟩
           have n3_ : Aside0 (w.heap.size ≤ gb256) := ⟨h3_⟩
           have n4_ : Aside0 (gb257 ≠ gb256) := ⟨h4_⟩
           have n5_ : Aside0 (gb256 ≠ gb257) := ⟨h5_⟩
           have n6_ : Aside0 (w.heap.size ≤ gb257) := ⟨h6_⟩
           have n7_ : Aside0 (w.heap.size ≤ gb257) := ⟨h7_⟩
           have n8_ : Aside0 (Below w.heap.size w w17) := ⟨h8_⟩
           clear HB
           clear h0_ h1_ h2_ h3_ h4_ h5_ h6_ h7_ h8_
           have BK256 := n0_
           have BK257 := n1_
           have GW256 := n2_
           have GE256 := n3_
           have NB257_256 := n4_
           have NB256_257 := n5_
           have GW257 := n6_
           have GE257 := n7_
           have HB := n8_
           clear n0_ n1_ n2_ n3_ n4_ n5_ n6_ n7_ n8_
           have hHeld : w17.cell? (ad253.add (((ji4)).toNat * 2)) = some (.int .i64 ((rd_T30 l0 (ji4)).f0)) ∧ w17.cell? ⟨(ad253.add (((ji4)).toNat * 2)).block, (ad253.add (((ji4)).toNat * 2)).off + 1, none⟩ = some (.int .i64 ((rd_T30 l0 (ji4)).f1)) ∧ w17.cell? (ad253.add ((a1).toNat * 2)) = some (.int .i64 ((rd_T30 l0 a1).f0)) ∧ w17.cell? ⟨(ad253.add ((a1).toNat * 2)).block, (ad253.add ((a1).toNat * 2)).off + 1, none⟩ = some (.int .i64 ((rd_T30 l0 a1).f1)) ∧ w17.cell? (ad253.add (((ji9)).toNat * 2)) = some (.int .i64 ((rd_T30 l0 (ji9)).f0)) ∧ w17.cell? ⟨(ad253.add (((ji9)).toNat * 2)).block, (ad253.add (((ji9)).toNat * 2)).off + 1, none⟩ = some (.int .i64 ((rd_T30 l0 (ji9)).f1)) := hS_
           refine norm_ (a' := ?_) ?_ ?_
           rotate_left
           ·simp only [putAll, Act.put, List.setIfInBounds_toArray, List.set_cons_zero, List.set_cons_succ]
            rfl
           refine one_ (i := 22) (N := some 8) #[tT,tT,tT,tT,tT,tT,tT,tT,tT,tT,tT,tT,tT,tT,tT,tT,tT,tT,tT,tT,tT,tT,tT,fF,fF,fF] rfl rfl (one_of HT_.out (by kernel_rfl)) (by decide) (fun K hK => ?_)
           refine box_step ?hg (N := 8) ?hd (cs := #[.int .i64 0, .int .i64 0]) (t := 30) ?hr ?_; (case hd => rfl); (case hg => rfl); (case hr => first | (go_simp; done) | (go_simp; rfl))
           intro gb258 hg w18 hbox hb
           have n0_ := kb BK256 hb
           have n1_ := kb BK257 hb
           have n2_ := sb hb
           have n3_ := Aside0.mk (hbox)
           have n4_ := zb hg
           have n5_ := zb hg
           have n6_ := nl BK256 hg
           have n7_ := ng BK256 hg
           have n8_ := nl BK257 hg
           have n9_ := ng BK257 hg
           clear BK256
           clear BK257
           clear HB
           have BK256 := n0_
           have BK257 := n1_
           have HB := n2_
           have BK258 := n3_
           have GW258 := n4_
           have GE258 := n5_
           have NB256_258 := n6_
           have NB258_256 := n7_
           have NB257_258 := n8_
           have NB258_257 := n9_
           clear n0_ n1_ n2_ n3_ n4_ n5_ n6_ n7_ n8_ n9_
           clear hb hbox hg
           refine hK.out _ _ ⟨((HB.out.cell (bL w _ hw253_0)).trans hw253_0), ((HB.out.cell (bL w _ hw253_1)).trans hw253_1), ((HB.out.cell (bL w _ hw254_0)).trans hw254_0), ((HB.out.cell (bL w _ hw254_1)).trans hw254_1), ((HB.out.cell (bL w _ hw255_0)).trans hw255_0), ((HB.out.cell (bL w _ hw255_1)).trans hw255_1)⟩ (fun hHeld => ?_)
           clear hK K
           refine norm_ (a' := ?_) ?_ ?_
           rotate_left
           ·show Act.put _ (some 8) _ = _
            simp only [Act.put, List.setIfInBounds_toArray, List.set_cons_zero, List.set_cons_succ, i64_w, i32_w]
            rfl
           exact norm_ (by first | (simp only [putAll, Act.put, List.setIfInBounds_toArray, List.set_cons_zero, List.set_cons_succ]; done) | (simp only [putAll, Act.put, List.setIfInBounds_toArray, List.set_cons_zero, List.set_cons_succ]; rfl)) (hJ20_21_22 (gb256, gb257, gb258) _ ⟨hHeld, (bk BK256), (bk BK257), (bk BK258), GW256.out, GE256.out, NB257_256.out, NB256_257.out, NB258_256.out, NB256_258.out, GW257.out, GE257.out, NB258_257.out, NB257_258.out, GW258.out, GE258.out, ib⟩)
         rintro ⟨gb256, gb257, gb258⟩ w18 ⟨hS_, h0_, h1_, h2_, h3_, h4_, h5_, h6_, h7_, h8_, h9_, h10_, h11_, h12_, h13_, h14_, h15_⟩
         have n0_ : Aside0 (w18.heap[gb256]? = some (.cells #[.int .i64 0, .int .i64 0] 30 (0, 0))) := ⟨h0_⟩
         have n1_ : Aside0 (w18.heap[gb257]? = some (.cells #[.int .i64 0, .int .i64 0] 30 (0, 0))) := ⟨h1_⟩
         have n2_ : Aside0 (w18.heap[gb258]? = some (.cells #[.int .i64 0, .int .i64 0] 30 (0, 0))) := ⟨h2_⟩
         have n3_ : Aside0 (w.heap.size ≤ gb256) := ⟨h3_⟩
         have n4_ : Aside0 (w.heap.size ≤ gb256) := ⟨h4_⟩
         have n5_ : Aside0 (gb257 ≠ gb256) := ⟨h5_⟩
         have n6_ : Aside0 (gb256 ≠ gb257) := ⟨h6_⟩
         have n7_ : Aside0 (gb258 ≠ gb256) := ⟨h7_⟩
         have n8_ : Aside0 (gb256 ≠ gb258) := ⟨h8_⟩
         have n9_ : Aside0 (w.heap.size ≤ gb257) := ⟨h9_⟩
         have n10_ : Aside0 (w.heap.size ≤ gb257) := ⟨h10_⟩
         have n11_ : Aside0 (gb258 ≠ gb257) := ⟨h11_⟩
         have n12_ : Aside0 (gb257 ≠ gb258) := ⟨h12_⟩
         have n13_ : Aside0 (w.heap.size ≤ gb258) := ⟨h13_⟩
         have n14_ : Aside0 (w.heap.size ≤ gb258) := ⟨h14_⟩
         have n15_ : Aside0 (Below w.heap.size w w18) := ⟨h15_⟩
         clear HB
         clear h0_ h1_ h2_ h3_ h4_ h5_ h6_ h7_ h8_ h9_ h10_ h11_ h12_ h13_ h14_ h15_
         have BK256 := n0_
         have BK257 := n1_
         have BK258 := n2_
         have GW256 := n3_
         have GE256 := n4_
         have NB257_256 := n5_
         have NB256_257 := n6_
         have NB258_256 := n7_
         have NB256_258 := n8_
         have GW257 := n9_
         have GE257 := n10_
         have NB258_257 := n11_
         have NB257_258 := n12_
         have GW258 := n13_
         have GE258 := n14_
         have HB := n15_
         clear n0_ n1_ n2_ n3_ n4_ n5_ n6_ n7_ n8_ n9_ n10_ n11_ n12_ n13_ n14_ n15_
         have hHeld : w18.cell? (ad253.add (((ji4)).toNat * 2)) = some (.int .i64 ((rd_T30 l0 (ji4)).f0)) ∧ w18.cell? ⟨(ad253.add (((ji4)).toNat * 2)).block, (ad253.add (((ji4)).toNat * 2)).off + 1, none⟩ = some (.int .i64 ((rd_T30 l0 (ji4)).f1)) ∧ w18.cell? (ad253.add ((a1).toNat * 2)) = some (.int .i64 ((rd_T30 l0 a1).f0)) ∧ w18.cell? ⟨(ad253.add ((a1).toNat * 2)).block, (ad253.add ((a1).toNat * 2)).off + 1, none⟩ = some (.int .i64 ((rd_T30 l0 a1).f1)) ∧ w18.cell? (ad253.add (((ji9)).toNat * 2)) = some (.int .i64 ((rd_T30 l0 (ji9)).f0)) ∧ w18.cell? ⟨(ad253.add (((ji9)).toNat * 2)).block, (ad253.add (((ji9)).toNat * 2)).off + 1, none⟩ = some (.int .i64 ((rd_T30 l0 (ji9)).f1)) := hS_
         refine norm_ (a' := ?_) ?_ ?_
         rotate_left
         ·simp only [putAll, Act.put, List.setIfInBounds_toArray, List.set_cons_zero, List.set_cons_succ]
          rfl
         refine one_ (i := 23) (N := none) #[tT,tT,tT,tT,tT,tT,tT,tT,tT,tT,tT,tT,tT,tT,tT,tT,tT,tT,tT,tT,tT,tT,tT,tT,fF,fF] rfl rfl (one_of HT_.out (by kernel_rfl)) (by decide) (fun K hK => ?_)
         have hs19 : w18.cell? ⟨gb256, 0, none⟩ = some (.int .i64 0) := (blk_cell BK256.out 0).trans rfl
         have hfs19 := blk_frozen BK256.out 0
         have hns19_1 := NB257_256.out
         have hns19_2 := NB258_256.out
         have hms19_1 := NB256_257.out
         have hms19_2 := NB256_258.out
         have hs20 : w18.cell? ⟨gb256, 1, none⟩ = some (.int .i64 0) := (blk_cell BK256.out 1).trans rfl
         have hfs20 := blk_frozen BK256.out 1
         have hns20_1 := NB257_256.out
         have hns20_2 := NB258_256.out
         have hms20_1 := NB256_257.out
         have hms20_2 := NB256_258.out
         refine skip_ (w1 := ?_) (by rfl) rfl ?_ ?_
         rotate_left
         ·go_simp
          rfl
         refine hK.out _ _ ⟨((cell_far (p := ⟨gb256, _, none⟩) (by first | exact Nat.ne_of_lt (Nat.lt_of_lt_of_le (by have := bL _ _ hw253_0; first | rwa [add_block] at this | exact this) GW256.out) | (rw [add_block]; exact Nat.ne_of_lt (Nat.lt_of_lt_of_le (by have := bL _ _ hw253_0; first | rwa [add_block] at this | exact this) GW256.out)) | (show (Addr.add _ _).block ≠ _; rw [add_block]; exact Nat.ne_of_lt (Nat.lt_of_lt_of_le (by have := bL _ _ hw253_0; first | rwa [add_block] at this | exact this) GW256.out)) | (dsimp only; exact Nat.ne_of_lt (Nat.lt_of_lt_of_le (by have := bL _ _ hw253_0; first | rwa [add_block] at this | exact this) GW256.out))) _).trans (((cell_far (p := ⟨gb256, _, none⟩) (by first | exact Nat.ne_of_lt (Nat.lt_of_lt_of_le (by have := bL _ _ hw253_0; first | rwa [add_block] at this | exact this) GW256.out) | (rw [add_block]; exact Nat.ne_of_lt (Nat.lt_of_lt_of_le (by have := bL _ _ hw253_0; first | rwa [add_block] at this | exact this) GW256.out)) | (show (Addr.add _ _).block ≠ _; rw [add_block]; exact Nat.ne_of_lt (Nat.lt_of_lt_of_le (by have := bL _ _ hw253_0; first | rwa [add_block] at this | exact this) GW256.out)) | (dsimp only; exact Nat.ne_of_lt (Nat.lt_of_lt_of_le (by have := bL _ _ hw253_0; first | rwa [add_block] at this | exact this) GW256.out))) _).trans (hHeld.1)))), ((cell_far (p := ⟨gb256, _, none⟩) (by first | exact Nat.ne_of_lt (Nat.lt_of_lt_of_le (by have := bL _ _ hw253_1; first | rwa [add_block] at this | exact this) GW256.out) | (rw [add_block]; exact Nat.ne_of_lt (Nat.lt_of_lt_of_le (by have := bL _ _ hw253_1; first | rwa [add_block] at this | exact this) GW256.out)) | (show (Addr.add _ _).block ≠ _; rw [add_block]; exact Nat.ne_of_lt (Nat.lt_of_lt_of_le (by have := bL _ _ hw253_1; first | rwa [add_block] at this | exact this) GW256.out)) | (dsimp only; exact Nat.ne_of_lt (Nat.lt_of_lt_of_le (by have := bL _ _ hw253_1; first | rwa [add_block] at this | exact this) GW256.out))) _).trans (((cell_far (p := ⟨gb256, _, none⟩) (by first | exact Nat.ne_of_lt (Nat.lt_of_lt_of_le (by have := bL _ _ hw253_1; first | rwa [add_block] at this | exact this) GW256.out) | (rw [add_block]; exact Nat.ne_of_lt (Nat.lt_of_lt_of_le (by have := bL _ _ hw253_1; first | rwa [add_block] at this | exact this) GW256.out)) | (show (Addr.add _ _).block ≠ _; rw [add_block]; exact Nat.ne_of_lt (Nat.lt_of_lt_of_le (by have := bL _ _ hw253_1; first | rwa [add_block] at this | exact this) GW256.out)) | (dsimp only; exact Nat.ne_of_lt (Nat.lt_of_lt_of_le (by have := bL _ _ hw253_1; first | rwa [add_block] at this | exact this) GW256.out))) _).trans (hHeld.2.1)))), ((cell_far (p := ⟨gb256, _, none⟩) (by first | exact Nat.ne_of_lt (Nat.lt_of_lt_of_le (by have := bL _ _ hw254_0; first | rwa [add_block] at this | exact this) GW256.out) | (rw [add_block]; exact Nat.ne_of_lt (Nat.lt_of_lt_of_le (by have := bL _ _ hw254_0; first | rwa [add_block] at this | exact this) GW256.out)) | (show (Addr.add _ _).block ≠ _; rw [add_block]; exact Nat.ne_of_lt (Nat.lt_of_lt_of_le (by have := bL _ _ hw254_0; first | rwa [add_block] at this | exact this) GW256.out)) | (dsimp only; exact Nat.ne_of_lt (Nat.lt_of_lt_of_le (by have := bL _ _ hw254_0; first | rwa [add_block] at this | exact this) GW256.out))) _).trans (((cell_far (p := ⟨gb256, _, none⟩) (by first | exact Nat.ne_of_lt (Nat.lt_of_lt_of_le (by have := bL _ _ hw254_0; first | rwa [add_block] at this | exact this) GW256.out) | (rw [add_block]; exact Nat.ne_of_lt (Nat.lt_of_lt_of_le (by have := bL _ _ hw254_0; first | rwa [add_block] at this | exact this) GW256.out)) | (show (Addr.add _ _).block ≠ _; rw [add_block]; exact Nat.ne_of_lt (Nat.lt_of_lt_of_le (by have := bL _ _ hw254_0; first | rwa [add_block] at this | exact this) GW256.out)) | (dsimp only; exact Nat.ne_of_lt (Nat.lt_of_lt_of_le (by have := bL _ _ hw254_0; first | rwa [add_block] at this | exact this) GW256.out))) _).trans (hHeld.2.2.1)))), ((cell_far (p := ⟨gb256, _, none⟩) (by first | exact Nat.ne_of_lt (Nat.lt_of_lt_of_le (by have := bL _ _ hw254_1; first | rwa [add_block] at this | exact this) GW256.out) | (rw [add_block]; exact Nat.ne_of_lt (Nat.lt_of_lt_of_le (by have := bL _ _ hw254_1; first | rwa [add_block] at this | exact this) GW256.out)) | (show (Addr.add _ _).block ≠ _; rw [add_block]; exact Nat.ne_of_lt (Nat.lt_of_lt_of_le (by have := bL _ _ hw254_1; first | rwa [add_block] at this | exact this) GW256.out)) | (dsimp only; exact Nat.ne_of_lt (Nat.lt_of_lt_of_le (by have := bL _ _ hw254_1; first | rwa [add_block] at this | exact this) GW256.out))) _).trans (((cell_far (p := ⟨gb256, _, none⟩) (by first | exact Nat.ne_of_lt (Nat.lt_of_lt_of_le (by have := bL _ _ hw254_1; first | rwa [add_block] at this | exact this) GW256.out) | (rw [add_block]; exact Nat.ne_of_lt (Nat.lt_of_lt_of_le (by have := bL _ _ hw254_1; first | rwa [add_block] at this | exact this) GW256.out)) | (show (Addr.add _ _).block ≠ _; rw [add_block]; exact Nat.ne_of_lt (Nat.lt_of_lt_of_le (by have := bL _ _ hw254_1; first | rwa [add_block] at this | exact this) GW256.out)) | (dsimp only; exact Nat.ne_of_lt (Nat.lt_of_lt_of_le (by have := bL _ _ hw254_1; first | rwa [add_block] at this | exact this) GW256.out))) _).trans (hHeld.2.2.2.1)))), ((cell_far (p := ⟨gb256, _, none⟩) (by first | exact Nat.ne_of_lt (Nat.lt_of_lt_of_le (by have := bL _ _ hw255_0; first | rwa [add_block] at this | exact this) GW256.out) | (rw [add_block]; exact Nat.ne_of_lt (Nat.lt_of_lt_of_le (by have := bL _ _ hw255_0; first | rwa [add_block] at this | exact this) GW256.out)) | (show (Addr.add _ _).block ≠ _; rw [add_block]; exact Nat.ne_of_lt (Nat.lt_of_lt_of_le (by have := bL _ _ hw255_0; first | rwa [add_block] at this | exact this) GW256.out)) | (dsimp only; exact Nat.ne_of_lt (Nat.lt_of_lt_of_le (by have := bL _ _ hw255_0; first | rwa [add_block] at this | exact this) GW256.out))) _).trans (((cell_far (p := ⟨gb256, _, none⟩) (by first | exact Nat.ne_of_lt (Nat.lt_of_lt_of_le (by have := bL _ _ hw255_0; first | rwa [add_block] at this | exact this) GW256.out) | (rw [add_block]; exact Nat.ne_of_lt (Nat.lt_of_lt_of_le (by have := bL _ _ hw255_0; first | rwa [add_block] at this | exact this) GW256.out)) | (show (Addr.add _ _).block ≠ _; rw [add_block]; exact Nat.ne_of_lt (Nat.lt_of_lt_of_le (by have := bL _ _ hw255_0; first | rwa [add_block] at this | exact this) GW256.out)) | (dsimp only; exact Nat.ne_of_lt (Nat.lt_of_lt_of_le (by have := bL _ _ hw255_0; first | rwa [add_block] at this | exact this) GW256.out))) _).trans (hHeld.2.2.2.2.1)))), ((cell_far (p := ⟨gb256, _, none⟩) (by first | exact Nat.ne_of_lt (Nat.lt_of_lt_of_le (by have := bL _ _ hw255_1; first | rwa [add_block] at this | exact this) GW256.out) | (rw [add_block]; exact Nat.ne_of_lt (Nat.lt_of_lt_of_le (by have := bL _ _ hw255_1; first | rwa [add_block] at this | exact this) GW256.out)) | (show (Addr.add _ _).block ≠ _; rw [add_block]; exact Nat.ne_of_lt (Nat.lt_of_lt_of_le (by have := bL _ _ hw255_1; first | rwa [add_block] at this | exact this) GW256.out)) | (dsimp only; exact Nat.ne_of_lt (Nat.lt_of_lt_of_le (by have := bL _ _ hw255_1; first | rwa [add_block] at this | exact this) GW256.out))) _).trans (((cell_far (p := ⟨gb256, _, none⟩) (by first | exact Nat.ne_of_lt (Nat.lt_of_lt_of_le (by have := bL _ _ hw255_1; first | rwa [add_block] at this | exact this) GW256.out) | (rw [add_block]; exact Nat.ne_of_lt (Nat.lt_of_lt_of_le (by have := bL _ _ hw255_1; first | rwa [add_block] at this | exact this) GW256.out)) | (show (Addr.add _ _).block ≠ _; rw [add_block]; exact Nat.ne_of_lt (Nat.lt_of_lt_of_le (by have := bL _ _ hw255_1; first | rwa [add_block] at this | exact this) GW256.out)) | (dsimp only; exact Nat.ne_of_lt (Nat.lt_of_lt_of_le (by have := bL _ _ hw255_1; first | rwa [add_block] at this | exact this) GW256.out))) _).trans (hHeld.2.2.2.2.2))))⟩ (fun hHeld => ?_)
         clear hK K
         refine one_ (i := 24) (N := none) #[tT,tT,tT,tT,tT,tT,tT,tT,tT,tT,tT,tT,tT,tT,tT,tT,tT,tT,tT,tT,tT,tT,tT,tT,tT,fF] rfl rfl (one_of HT_.out (by kernel_rfl)) (by decide) (fun K hK => ?_)
         have hs21 : w18.cell? ⟨gb257, 0, none⟩ = some (.int .i64 0) := (blk_cell BK257.out 0).trans rfl
         have hfs21 := blk_frozen BK257.out 0
         have hns21_0 := NB256_257.out
         have hns21_2 := NB258_257.out
         have hms21_0 := NB257_256.out
         have hms21_2 := NB257_258.out
         have hs22 : w18.cell? ⟨gb257, 1, none⟩ = some (.int .i64 0) := (blk_cell BK257.out 1).trans rfl
         have hfs22 := blk_frozen BK257.out 1
         have hns22_0 := NB256_257.out
         have hns22_2 := NB258_257.out
         have hms22_0 := NB257_256.out
         have hms22_2 := NB257_258.out
         refine skip_ (w1 := ?_) (by rfl) rfl ?_ ?_
         rotate_left
         ·go_simp
          rfl
         refine hK.out _ _ ⟨((cell_far (p := ⟨gb257, _, none⟩) (by first | exact Nat.ne_of_lt (Nat.lt_of_lt_of_le (by have := bL _ _ hw253_0; first | rwa [add_block] at this | exact this) GW257.out) | (rw [add_block]; exact Nat.ne_of_lt (Nat.lt_of_lt_of_le (by have := bL _ _ hw253_0; first | rwa [add_block] at this | exact this) GW257.out)) | (show (Addr.add _ _).block ≠ _; rw [add_block]; exact Nat.ne_of_lt (Nat.lt_of_lt_of_le (by have := bL _ _ hw253_0; first | rwa [add_block] at this | exact this) GW257.out)) | (dsimp only; exact Nat.ne_of_lt (Nat.lt_of_lt_of_le (by have := bL _ _ hw253_0; first | rwa [add_block] at this | exact this) GW257.out))) _).trans (((cell_far (p := ⟨gb257, _, none⟩) (by first | exact Nat.ne_of_lt (Nat.lt_of_lt_of_le (by have := bL _ _ hw253_0; first | rwa [add_block] at this | exact this) GW257.out) | (rw [add_block]; exact Nat.ne_of_lt (Nat.lt_of_lt_of_le (by have := bL _ _ hw253_0; first | rwa [add_block] at this | exact this) GW257.out)) | (show (Addr.add _ _).block ≠ _; rw [add_block]; exact Nat.ne_of_lt (Nat.lt_of_lt_of_le (by have := bL _ _ hw253_0; first | rwa [add_block] at this | exact this) GW257.out)) | (dsimp only; exact Nat.ne_of_lt (Nat.lt_of_lt_of_le (by have := bL _ _ hw253_0; first | rwa [add_block] at this | exact this) GW257.out))) _).trans (hHeld.1)))), ((cell_far (p := ⟨gb257, _, none⟩) (by first | exact Nat.ne_of_lt (Nat.lt_of_lt_of_le (by have := bL _ _ hw253_1; first | rwa [add_block] at this | exact this) GW257.out) | (rw [add_block]; exact Nat.ne_of_lt (Nat.lt_of_lt_of_le (by have := bL _ _ hw253_1; first | rwa [add_block] at this | exact this) GW257.out)) | (show (Addr.add _ _).block ≠ _; rw [add_block]; exact Nat.ne_of_lt (Nat.lt_of_lt_of_le (by have := bL _ _ hw253_1; first | rwa [add_block] at this | exact this) GW257.out)) | (dsimp only; exact Nat.ne_of_lt (Nat.lt_of_lt_of_le (by have := bL _ _ hw253_1; first | rwa [add_block] at this | exact this) GW257.out))) _).trans (((cell_far (p := ⟨gb257, _, none⟩) (by first | exact Nat.ne_of_lt (Nat.lt_of_lt_of_le (by have := bL _ _ hw253_1; first | rwa [add_block] at this | exact this) GW257.out) | (rw [add_block]; exact Nat.ne_of_lt (Nat.lt_of_lt_of_le (by have := bL _ _ hw253_1; first | rwa [add_block] at this | exact this) GW257.out)) | (show (Addr.add _ _).block ≠ _; rw [add_block]; exact Nat.ne_of_lt (Nat.lt_of_lt_of_le (by have := bL _ _ hw253_1; first | rwa [add_block] at this | exact this) GW257.out)) | (dsimp only; exact Nat.ne_of_lt (Nat.lt_of_lt_of_le (by have := bL _ _ hw253_1; first | rwa [add_block] at this | exact this) GW257.out))) _).trans (hHeld.2.1)))), ((cell_far (p := ⟨gb257, _, none⟩) (by first | exact Nat.ne_of_lt (Nat.lt_of_lt_of_le (by have := bL _ _ hw254_0; first | rwa [add_block] at this | exact this) GW257.out) | (rw [add_block]; exact Nat.ne_of_lt (Nat.lt_of_lt_of_le (by have := bL _ _ hw254_0; first | rwa [add_block] at this | exact this) GW257.out)) | (show (Addr.add _ _).block ≠ _; rw [add_block]; exact Nat.ne_of_lt (Nat.lt_of_lt_of_le (by have := bL _ _ hw254_0; first | rwa [add_block] at this | exact this) GW257.out)) | (dsimp only; exact Nat.ne_of_lt (Nat.lt_of_lt_of_le (by have := bL _ _ hw254_0; first | rwa [add_block] at this | exact this) GW257.out))) _).trans (((cell_far (p := ⟨gb257, _, none⟩) (by first | exact Nat.ne_of_lt (Nat.lt_of_lt_of_le (by have := bL _ _ hw254_0; first | rwa [add_block] at this | exact this) GW257.out) | (rw [add_block]; exact Nat.ne_of_lt (Nat.lt_of_lt_of_le (by have := bL _ _ hw254_0; first | rwa [add_block] at this | exact this) GW257.out)) | (show (Addr.add _ _).block ≠ _; rw [add_block]; exact Nat.ne_of_lt (Nat.lt_of_lt_of_le (by have := bL _ _ hw254_0; first | rwa [add_block] at this | exact this) GW257.out)) | (dsimp only; exact Nat.ne_of_lt (Nat.lt_of_lt_of_le (by have := bL _ _ hw254_0; first | rwa [add_block] at this | exact this) GW257.out))) _).trans (hHeld.2.2.1)))), ((cell_far (p := ⟨gb257, _, none⟩) (by first | exact Nat.ne_of_lt (Nat.lt_of_lt_of_le (by have := bL _ _ hw254_1; first | rwa [add_block] at this | exact this) GW257.out) | (rw [add_block]; exact Nat.ne_of_lt (Nat.lt_of_lt_of_le (by have := bL _ _ hw254_1; first | rwa [add_block] at this | exact this) GW257.out)) | (show (Addr.add _ _).block ≠ _; rw [add_block]; exact Nat.ne_of_lt (Nat.lt_of_lt_of_le (by have := bL _ _ hw254_1; first | rwa [add_block] at this | exact this) GW257.out)) | (dsimp only; exact Nat.ne_of_lt (Nat.lt_of_lt_of_le (by have := bL _ _ hw254_1; first | rwa [add_block] at this | exact this) GW257.out))) _).trans (((cell_far (p := ⟨gb257, _, none⟩) (by first | exact Nat.ne_of_lt (Nat.lt_of_lt_of_le (by have := bL _ _ hw254_1; first | rwa [add_block] at this | exact this) GW257.out) | (rw [add_block]; exact Nat.ne_of_lt (Nat.lt_of_lt_of_le (by have := bL _ _ hw254_1; first | rwa [add_block] at this | exact this) GW257.out)) | (show (Addr.add _ _).block ≠ _; rw [add_block]; exact Nat.ne_of_lt (Nat.lt_of_lt_of_le (by have := bL _ _ hw254_1; first | rwa [add_block] at this | exact this) GW257.out)) | (dsimp only; exact Nat.ne_of_lt (Nat.lt_of_lt_of_le (by have := bL _ _ hw254_1; first | rwa [add_block] at this | exact this) GW257.out))) _).trans (hHeld.2.2.2.1)))), ((cell_far (p := ⟨gb257, _, none⟩) (by first | exact Nat.ne_of_lt (Nat.lt_of_lt_of_le (by have := bL _ _ hw255_0; first | rwa [add_block] at this | exact this) GW257.out) | (rw [add_block]; exact Nat.ne_of_lt (Nat.lt_of_lt_of_le (by have := bL _ _ hw255_0; first | rwa [add_block] at this | exact this) GW257.out)) | (show (Addr.add _ _).block ≠ _; rw [add_block]; exact Nat.ne_of_lt (Nat.lt_of_lt_of_le (by have := bL _ _ hw255_0; first | rwa [add_block] at this | exact this) GW257.out)) | (dsimp only; exact Nat.ne_of_lt (Nat.lt_of_lt_of_le (by have := bL _ _ hw255_0; first | rwa [add_block] at this | exact this) GW257.out))) _).trans (((cell_far (p := ⟨gb257, _, none⟩) (by first | exact Nat.ne_of_lt (Nat.lt_of_lt_of_le (by have := bL _ _ hw255_0; first | rwa [add_block] at this | exact this) GW257.out) | (rw [add_block]; exact Nat.ne_of_lt (Nat.lt_of_lt_of_le (by have := bL _ _ hw255_0; first | rwa [add_block] at this | exact this) GW257.out)) | (show (Addr.add _ _).block ≠ _; rw [add_block]; exact Nat.ne_of_lt (Nat.lt_of_lt_of_le (by have := bL _ _ hw255_0; first | rwa [add_block] at this | exact this) GW257.out)) | (dsimp only; exact Nat.ne_of_lt (Nat.lt_of_lt_of_le (by have := bL _ _ hw255_0; first | rwa [add_block] at this | exact this) GW257.out))) _).trans (hHeld.2.2.2.2.1)))), ((cell_far (p := ⟨gb257, _, none⟩) (by first | exact Nat.ne_of_lt (Nat.lt_of_lt_of_le (by have := bL _ _ hw255_1; first | rwa [add_block] at this | exact this) GW257.out) | (rw [add_block]; exact Nat.ne_of_lt (Nat.lt_of_lt_of_le (by have := bL _ _ hw255_1; first | rwa [add_block] at this | exact this) GW257.out)) | (show (Addr.add _ _).block ≠ _; rw [add_block]; exact Nat.ne_of_lt (Nat.lt_of_lt_of_le (by have := bL _ _ hw255_1; first | rwa [add_block] at this | exact this) GW257.out)) | (dsimp only; exact Nat.ne_of_lt (Nat.lt_of_lt_of_le (by have := bL _ _ hw255_1; first | rwa [add_block] at this | exact this) GW257.out))) _).trans (((cell_far (p := ⟨gb257, _, none⟩) (by first | exact Nat.ne_of_lt (Nat.lt_of_lt_of_le (by have := bL _ _ hw255_1; first | rwa [add_block] at this | exact this) GW257.out) | (rw [add_block]; exact Nat.ne_of_lt (Nat.lt_of_lt_of_le (by have := bL _ _ hw255_1; first | rwa [add_block] at this | exact this) GW257.out)) | (show (Addr.add _ _).block ≠ _; rw [add_block]; exact Nat.ne_of_lt (Nat.lt_of_lt_of_le (by have := bL _ _ hw255_1; first | rwa [add_block] at this | exact this) GW257.out)) | (dsimp only; exact Nat.ne_of_lt (Nat.lt_of_lt_of_le (by have := bL _ _ hw255_1; first | rwa [add_block] at this | exact this) GW257.out))) _).trans (hHeld.2.2.2.2.2))))⟩ (fun hHeld => ?_)
         clear hK K
         refine one_ (i := 25) (N := none) #[tT,tT,tT,tT,tT,tT,tT,tT,tT,tT,tT,tT,tT,tT,tT,tT,tT,tT,tT,tT,tT,tT,tT,tT,tT,tT] rfl rfl (one_of HT_.out (by kernel_rfl)) (by decide) (fun K hK => ?_)
         have hs23 : w18.cell? ⟨gb258, 0, none⟩ = some (.int .i64 0) := (blk_cell BK258.out 0).trans rfl
         have hfs23 := blk_frozen BK258.out 0
         have hns23_0 := NB256_258.out
         have hns23_1 := NB257_258.out
         have hms23_0 := NB258_256.out
         have hms23_1 := NB258_257.out
         have hs24 : w18.cell? ⟨gb258, 1, none⟩ = some (.int .i64 0) := (blk_cell BK258.out 1).trans rfl
         have hfs24 := blk_frozen BK258.out 1
         have hns24_0 := NB256_258.out
         have hns24_1 := NB257_258.out
         have hms24_0 := NB258_256.out
         have hms24_1 := NB258_257.out
         refine skip_ (w1 := ?_) (by rfl) rfl ?_ ?_
         rotate_left
         ·go_simp
          rfl
         refine hK.out _ _ ⟨((cell_far (p := ⟨gb258, _, none⟩) (by first | exact Nat.ne_of_lt (Nat.lt_of_lt_of_le (by have := bL _ _ hw253_0; first | rwa [add_block] at this | exact this) GW258.out) | (rw [add_block]; exact Nat.ne_of_lt (Nat.lt_of_lt_of_le (by have := bL _ _ hw253_0; first | rwa [add_block] at this | exact this) GW258.out)) | (show (Addr.add _ _).block ≠ _; rw [add_block]; exact Nat.ne_of_lt (Nat.lt_of_lt_of_le (by have := bL _ _ hw253_0; first | rwa [add_block] at this | exact this) GW258.out)) | (dsimp only; exact Nat.ne_of_lt (Nat.lt_of_lt_of_le (by have := bL _ _ hw253_0; first | rwa [add_block] at this | exact this) GW258.out))) _).trans (((cell_far (p := ⟨gb258, _, none⟩) (by first | exact Nat.ne_of_lt (Nat.lt_of_lt_of_le (by have := bL _ _ hw253_0; first | rwa [add_block] at this | exact this) GW258.out) | (rw [add_block]; exact Nat.ne_of_lt (Nat.lt_of_lt_of_le (by have := bL _ _ hw253_0; first | rwa [add_block] at this | exact this) GW258.out)) | (show (Addr.add _ _).block ≠ _; rw [add_block]; exact Nat.ne_of_lt (Nat.lt_of_lt_of_le (by have := bL _ _ hw253_0; first | rwa [add_block] at this | exact this) GW258.out)) | (dsimp only; exact Nat.ne_of_lt (Nat.lt_of_lt_of_le (by have := bL _ _ hw253_0; first | rwa [add_block] at this | exact this) GW258.out))) _).trans (hHeld.1)))), ((cell_far (p := ⟨gb258, _, none⟩) (by first | exact Nat.ne_of_lt (Nat.lt_of_lt_of_le (by have := bL _ _ hw253_1; first | rwa [add_block] at this | exact this) GW258.out) | (rw [add_block]; exact Nat.ne_of_lt (Nat.lt_of_lt_of_le (by have := bL _ _ hw253_1; first | rwa [add_block] at this | exact this) GW258.out)) | (show (Addr.add _ _).block ≠ _; rw [add_block]; exact Nat.ne_of_lt (Nat.lt_of_lt_of_le (by have := bL _ _ hw253_1; first | rwa [add_block] at this | exact this) GW258.out)) | (dsimp only; exact Nat.ne_of_lt (Nat.lt_of_lt_of_le (by have := bL _ _ hw253_1; first | rwa [add_block] at this | exact this) GW258.out))) _).trans (((cell_far (p := ⟨gb258, _, none⟩) (by first | exact Nat.ne_of_lt (Nat.lt_of_lt_of_le (by have := bL _ _ hw253_1; first | rwa [add_block] at this | exact this) GW258.out) | (rw [add_block]; exact Nat.ne_of_lt (Nat.lt_of_lt_of_le (by have := bL _ _ hw253_1; first | rwa [add_block] at this | exact this) GW258.out)) | (show (Addr.add _ _).block ≠ _; rw [add_block]; exact Nat.ne_of_lt (Nat.lt_of_lt_of_le (by have := bL _ _ hw253_1; first | rwa [add_block] at this | exact this) GW258.out)) | (dsimp only; exact Nat.ne_of_lt (Nat.lt_of_lt_of_le (by have := bL _ _ hw253_1; first | rwa [add_block] at this | exact this) GW258.out))) _).trans (hHeld.2.1)))), ((cell_far (p := ⟨gb258, _, none⟩) (by first | exact Nat.ne_of_lt (Nat.lt_of_lt_of_le (by have := bL _ _ hw254_0; first | rwa [add_block] at this | exact this) GW258.out) | (rw [add_block]; exact Nat.ne_of_lt (Nat.lt_of_lt_of_le (by have := bL _ _ hw254_0; first | rwa [add_block] at this | exact this) GW258.out)) | (show (Addr.add _ _).block ≠ _; rw [add_block]; exact Nat.ne_of_lt (Nat.lt_of_lt_of_le (by have := bL _ _ hw254_0; first | rwa [add_block] at this | exact this) GW258.out)) | (dsimp only; exact Nat.ne_of_lt (Nat.lt_of_lt_of_le (by have := bL _ _ hw254_0; first | rwa [add_block] at this | exact this) GW258.out))) _).trans (((cell_far (p := ⟨gb258, _, none⟩) (by first | exact Nat.ne_of_lt (Nat.lt_of_lt_of_le (by have := bL _ _ hw254_0; first | rwa [add_block] at this | exact this) GW258.out) | (rw [add_block]; exact Nat.ne_of_lt (Nat.lt_of_lt_of_le (by have := bL _ _ hw254_0; first | rwa [add_block] at this | exact this) GW258.out)) | (show (Addr.add _ _).block ≠ _; rw [add_block]; exact Nat.ne_of_lt (Nat.lt_of_lt_of_le (by have := bL _ _ hw254_0; first | rwa [add_block] at this | exact this) GW258.out)) | (dsimp only; exact Nat.ne_of_lt (Nat.lt_of_lt_of_le (by have := bL _ _ hw254_0; first | rwa [add_block] at this | exact this) GW258.out))) _).trans (hHeld.2.2.1)))), ((cell_far (p := ⟨gb258, _, none⟩) (by first | exact Nat.ne_of_lt (Nat.lt_of_lt_of_le (by have := bL _ _ hw254_1; first | rwa [add_block] at this | exact this) GW258.out) | (rw [add_block]; exact Nat.ne_of_lt (Nat.lt_of_lt_of_le (by have := bL _ _ hw254_1; first | rwa [add_block] at this | exact this) GW258.out)) | (show (Addr.add _ _).block ≠ _; rw [add_block]; exact Nat.ne_of_lt (Nat.lt_of_lt_of_le (by have := bL _ _ hw254_1; first | rwa [add_block] at this | exact this) GW258.out)) | (dsimp only; exact Nat.ne_of_lt (Nat.lt_of_lt_of_le (by have := bL _ _ hw254_1; first | rwa [add_block] at this | exact this) GW258.out))) _).trans (((cell_far (p := ⟨gb258, _, none⟩) (by first | exact Nat.ne_of_lt (Nat.lt_of_lt_of_le (by have := bL _ _ hw254_1; first | rwa [add_block] at this | exact this) GW258.out) | (rw [add_block]; exact Nat.ne_of_lt (Nat.lt_of_lt_of_le (by have := bL _ _ hw254_1; first | rwa [add_block] at this | exact this) GW258.out)) | (show (Addr.add _ _).block ≠ _; rw [add_block]; exact Nat.ne_of_lt (Nat.lt_of_lt_of_le (by have := bL _ _ hw254_1; first | rwa [add_block] at this | exact this) GW258.out)) | (dsimp only; exact Nat.ne_of_lt (Nat.lt_of_lt_of_le (by have := bL _ _ hw254_1; first | rwa [add_block] at this | exact this) GW258.out))) _).trans (hHeld.2.2.2.1)))), ((cell_far (p := ⟨gb258, _, none⟩) (by first | exact Nat.ne_of_lt (Nat.lt_of_lt_of_le (by have := bL _ _ hw255_0; first | rwa [add_block] at this | exact this) GW258.out) | (rw [add_block]; exact Nat.ne_of_lt (Nat.lt_of_lt_of_le (by have := bL _ _ hw255_0; first | rwa [add_block] at this | exact this) GW258.out)) | (show (Addr.add _ _).block ≠ _; rw [add_block]; exact Nat.ne_of_lt (Nat.lt_of_lt_of_le (by have := bL _ _ hw255_0; first | rwa [add_block] at this | exact this) GW258.out)) | (dsimp only; exact Nat.ne_of_lt (Nat.lt_of_lt_of_le (by have := bL _ _ hw255_0; first | rwa [add_block] at this | exact this) GW258.out))) _).trans (((cell_far (p := ⟨gb258, _, none⟩) (by first | exact Nat.ne_of_lt (Nat.lt_of_lt_of_le (by have := bL _ _ hw255_0; first | rwa [add_block] at this | exact this) GW258.out) | (rw [add_block]; exact Nat.ne_of_lt (Nat.lt_of_lt_of_le (by have := bL _ _ hw255_0; first | rwa [add_block] at this | exact this) GW258.out)) | (show (Addr.add _ _).block ≠ _; rw [add_block]; exact Nat.ne_of_lt (Nat.lt_of_lt_of_le (by have := bL _ _ hw255_0; first | rwa [add_block] at this | exact this) GW258.out)) | (dsimp only; exact Nat.ne_of_lt (Nat.lt_of_lt_of_le (by have := bL _ _ hw255_0; first | rwa [add_block] at this | exact this) GW258.out))) _).trans (hHeld.2.2.2.2.1)))), ((cell_far (p := ⟨gb258, _, none⟩) (by first | exact Nat.ne_of_lt (Nat.lt_of_lt_of_le (by have := bL _ _ hw255_1; first | rwa [add_block] at this | exact this) GW258.out) | (rw [add_block]; exact Nat.ne_of_lt (Nat.lt_of_lt_of_le (by have := bL _ _ hw255_1; first | rwa [add_block] at this | exact this) GW258.out)) | (show (Addr.add _ _).block ≠ _; rw [add_block]; exact Nat.ne_of_lt (Nat.lt_of_lt_of_le (by have := bL _ _ hw255_1; first | rwa [add_block] at this | exact this) GW258.out)) | (dsimp only; exact Nat.ne_of_lt (Nat.lt_of_lt_of_le (by have := bL _ _ hw255_1; first | rwa [add_block] at this | exact this) GW258.out))) _).trans (((cell_far (p := ⟨gb258, _, none⟩) (by first | exact Nat.ne_of_lt (Nat.lt_of_lt_of_le (by have := bL _ _ hw255_1; first | rwa [add_block] at this | exact this) GW258.out) | (rw [add_block]; exact Nat.ne_of_lt (Nat.lt_of_lt_of_le (by have := bL _ _ hw255_1; first | rwa [add_block] at this | exact this) GW258.out)) | (show (Addr.add _ _).block ≠ _; rw [add_block]; exact Nat.ne_of_lt (Nat.lt_of_lt_of_le (by have := bL _ _ hw255_1; first | rwa [add_block] at this | exact this) GW258.out)) | (dsimp only; exact Nat.ne_of_lt (Nat.lt_of_lt_of_le (by have := bL _ _ hw255_1; first | rwa [add_block] at this | exact this) GW258.out))) _).trans (hHeld.2.2.2.2.2))))⟩ (fun hHeld => ?_)
         clear hK K
         refine done_ (done_of HT_.out (by kernel_rfl)) ?_
         have hnb25 := NB256_257.out
         have hnc25 := NB257_256.out
         have hnb26 := NB256_258.out
         have hnc26 := NB258_256.out
         have hcz27_0 := ck BK256 0
         have hcz27_1 := ck BK256 1
         have hfz27_0 := blk_frozen BK256.out 0
         have hfz27_1 := blk_frozen BK256.out 1
         have hnb28 := NB257_258.out
         have hnc28 := NB258_257.out
         have hcz29_0 := ck BK257 0
         have hcz29_1 := ck BK257 1
         have hfz29_0 := blk_frozen BK257.out 0
         have hfz29_1 := blk_frozen BK257.out 1
         have hcz30_0 := ck BK258 0
         have hcz30_1 := ck BK258 1
         have hfz30_0 := blk_frozen BK258.out 0
         have hfz30_1 := blk_frozen BK258.out 1
         try go_wp2_with (first | ((with_reducible refine gate_callee (f := 72) rfl ?_); refine goesL_ (some 36) rfl rfl Try.func72 (by kernel_rfl) rfl #[.agg #[.int .i64 ((rd_T30 l0 (ji4)).f0), .int .i64 ((rd_T30 l0 (ji4)).f1)], .agg #[.int .i64 ((rd_T30 l0 a1).f0), .int .i64 ((rd_T30 l0 a1).f1)], .agg #[.int .i64 ((rd_T30 l0 (ji9)).f0), .int .i64 ((rd_T30 l0 (ji9)).f1)]] rfl (by (try simp only [List.map_toArray, List.map_cons, List.map_nil]); first | done | (simp only [hji4, hji9]; rfl) | rfl | (simp only [List.length_drop, List.length_take]; rfl)) ?_; (with_reducible refine (impl_side.calls ((rd_T30 l0 (ji4)).f0) ((rd_T30 l0 (ji4)).f1) ((rd_T30 l0 a1).f0) ((rd_T30 l0 a1).f1) ((rd_T30 l0 (ji9)).f0) ((rd_T30 l0 (ji9)).f1) t259 _ A12.out).mono ?_); rintro e w31 ⟨rfl, hb⟩; refine ⟨_, rfl, ?_⟩; have n0_ := Aside0.mk (blk_below (g := gb256) (o := .cells #[.int .i64 ((rd_T30 l0 (ji4)).f0), .int .i64 ((rd_T30 l0 (ji4)).f1)] 30 (0, 0)) (by (with_reducible repeat (first | refine blk_drewN ?_ _ | refine blk_drew ?_ | refine blk_alloc ?_ _)); refine blk_far ?_ NB256_258.out _; (with_reducible repeat (first | refine blk_drewN ?_ _ | refine blk_drew ?_ | refine blk_alloc ?_ _)); refine blk_far ?_ NB256_258.out _; (with_reducible repeat (first | refine blk_drewN ?_ _ | refine blk_drew ?_ | refine blk_alloc ?_ _)); refine blk_far ?_ NB256_257.out _; (with_reducible repeat (first | refine blk_drewN ?_ _ | refine blk_drew ?_ | refine blk_alloc ?_ _)); refine blk_far ?_ NB256_257.out _; (with_reducible repeat (first | refine blk_drewN ?_ _ | refine blk_drew ?_ | refine blk_alloc ?_ _)); refine blk_put (cs := #[.int .i64 ((rd_T30 l0 (ji4)).f0), .int .i64 0]) ?_ 1 _ rfl; (with_reducible repeat (first | refine blk_drewN ?_ _ | refine blk_drew ?_ | refine blk_alloc ?_ _)); refine blk_put (cs := #[.int .i64 0, .int .i64 0]) ?_ 0 _ rfl; (with_reducible repeat (first | refine blk_drewN ?_ _ | refine blk_drew ?_ | refine blk_alloc ?_ _)); exact BK256.out) hb); have n1_ := Aside0.mk (blk_below (g := gb257) (o := .cells #[.int .i64 ((rd_T30 l0 a1).f0), .int .i64 ((rd_T30 l0 a1).f1)] 30 (0, 0)) (by (with_reducible repeat (first | refine blk_drewN ?_ _ | refine blk_drew ?_ | refine blk_alloc ?_ _)); refine blk_far ?_ NB257_258.out _; (with_reducible repeat (first | refine blk_drewN ?_ _ | refine blk_drew ?_ | refine blk_alloc ?_ _)); refine blk_far ?_ NB257_258.out _; (with_reducible repeat (first | refine blk_drewN ?_ _ | refine blk_drew ?_ | refine blk_alloc ?_ _)); refine blk_put (cs := #[.int .i64 ((rd_T30 l0 a1).f0), .int .i64 0]) ?_ 1 _ rfl; (with_reducible repeat (first | refine blk_drewN ?_ _ | refine blk_drew ?_ | refine blk_alloc ?_ _)); refine blk_put (cs := #[.int .i64 0, .int .i64 0]) ?_ 0 _ rfl; (with_reducible repeat (first | refine blk_drewN ?_ _ | refine blk_drew ?_ | refine blk_alloc ?_ _)); refine blk_far ?_ NB257_256.out _; (with_reducible repeat (first | refine blk_drewN ?_ _ | refine blk_drew ?_ | refine blk_alloc ?_ _)); refine blk_far ?_ NB257_256.out _; (with_reducible repeat (first | refine blk_drewN ?_ _ | refine blk_drew ?_ | refine blk_alloc ?_ _)); exact BK257.out) hb); have n2_ := Aside0.mk (blk_below (g := gb258) (o := .cells #[.int .i64 ((rd_T30 l0 (ji9)).f0), .int .i64 ((rd_T30 l0 (ji9)).f1)] 30 (0, 0)) (by (with_reducible repeat (first | refine blk_drewN ?_ _ | refine blk_drew ?_ | refine blk_alloc ?_ _)); refine blk_put (cs := #[.int .i64 ((rd_T30 l0 (ji9)).f0), .int .i64 0]) ?_ 1 _ rfl; (with_reducible repeat (first | refine blk_drewN ?_ _ | refine blk_drew ?_ | refine blk_alloc ?_ _)); refine blk_put (cs := #[.int .i64 0, .int .i64 0]) ?_ 0 _ rfl; (with_reducible repeat (first | refine blk_drewN ?_ _ | refine blk_drew ?_ | refine blk_alloc ?_ _)); refine blk_far ?_ NB258_257.out _; (with_reducible repeat (first | refine blk_drewN ?_ _ | refine blk_drew ?_ | refine blk_alloc ?_ _)); refine blk_far ?_ NB258_257.out _; (with_reducible repeat (first | refine blk_drewN ?_ _ | refine blk_drew ?_ | refine blk_alloc ?_ _)); refine blk_far ?_ NB258_256.out _; (with_reducible repeat (first | refine blk_drewN ?_ _ | refine blk_drew ?_ | refine blk_alloc ?_ _)); refine blk_far ?_ NB258_256.out _; (with_reducible repeat (first | refine blk_drewN ?_ _ | refine blk_drew ?_ | refine blk_alloc ?_ _)); exact BK258.out) hb); have n3_ := sb hb; clear BK256; clear BK257; clear BK258; clear HB; have BK256 := n0_; have BK257 := n1_; have BK258 := n2_; have HB := n3_; clear n0_ n1_ n2_ n3_; (try clear hb); (try clear hb2); (try clear hk); (try clear hi)))
         go_loopg [40] k (fun kq v40 w' => ∃ (x40_1 : Int), v40 = .int .i64 x40_1 ∧ Aside0 (impl_ear.l0 kq a1 (l0.length : Int) l0 (l0.length : Int) x40_1 ((rd_T30 l0 (ji4)).f0) ((rd_T30 l0 (ji4)).f1) ((rd_T30 l0 a1).f0) ((rd_T30 l0 a1).f1) ((rd_T30 l0 (ji9)).f0) ((rd_T30 l0 (ji9)).f1) = some r) ∧ Aside0 (kq ≤ k) ∧ Aside0 (w'.heap[gb256]? = some (.cells #[.int .i64 ((rd_T30 l0 (ji4)).f0), .int .i64 ((rd_T30 l0 (ji4)).f1)] 30 (0, 0))) ∧ Aside0 (w'.heap[gb257]? = some (.cells #[.int .i64 ((rd_T30 l0 a1).f0), .int .i64 ((rd_T30 l0 a1).f1)] 30 (0, 0))) ∧ Aside0 (w'.heap[gb258]? = some (.cells #[.int .i64 ((rd_T30 l0 (ji9)).f0), .int .i64 ((rd_T30 l0 (ji9)).f1)] 30 (0, 0))) ∧ Aside0 (Below w.heap.size w w'))
         case atStart => exact ⟨(0), (by first | rfl | (simp; done) | (simp [*]; done)), H', ⟨Nat.le_refl _⟩, ⟨by (with_reducible repeat (first | refine blk_drewN ?_ _ | refine blk_drew ?_ | refine blk_alloc ?_ _)); exact BK256.out⟩, ⟨by (with_reducible repeat (first | refine blk_drewN ?_ _ | refine blk_drew ?_ | refine blk_alloc ?_ _)); exact BK257.out⟩, ⟨by (with_reducible repeat (first | refine blk_drewN ?_ _ | refine blk_drew ?_ | refine blk_alloc ?_ _)); exact BK258.out⟩, ⟨by repeat (first | (with_reducible first | exact HB.out | apply below_alloc | apply pw_below_drewN | apply below_drew1 | refine below_set ?_ GE256.out | refine below_set ?_ GE257.out | refine below_set ?_ GE258.out) | exact HB.out)⟩⟩
         case round =>
          clear H'
          try clear c2
          try clear p2
          try clear c7
          try clear c25
          try clear c26
          try clear c28
          try clear hcz27_0
          try clear hcz27_1
          try clear hcz29_0
          try clear hcz29_1
          try clear hcz30_0
          try clear hcz30_1
          try clear hfz27_0
          try clear hfz27_1
          try clear hfz29_0
          try clear hfz29_1
          try clear hfz30_0
          try clear hfz30_1
          obtain ⟨x40_1, rfl, HA, HK1, BK256, BK257, BK258, HB⟩ := hrel
          cases gk with
          | zero => exact absurd HA.out (by simp [impl_ear.l0])
          | succ k1 =>
           have H := HA.out
           clear HA
           simp only [impl_ear.l0] at H
           by_cases c32 : x40_1 < (l0.length : Int)
           ·rw [if_pos c32] at H
            have c32b0 : decide (x40_1 < (l0.length : Int)) = true := decide_eq_true c32
            clear c32
            by_cases c33 : 0 ≤ x40_1
            ·rw [if_pos c33] at H
             have c33b0 : decide (0 ≤ x40_1) = true := decide_eq_true c33
             clear c33
             by_cases c34 : x40_1 < (l0.length : Int)
             ·rw [if_pos c34] at H
              have c34b0 : decide (x40_1 < (l0.length : Int)) = true := decide_eq_true c34
              clear c34
              by_cases c35 : x40_1 = a1
              ·rw [if_pos c35] at H
               have c35b0 : (x40_1 == a1) = true := beq_iff_eq.mpr c35
               have c35b1 : (x40_1 != a1) = false := bne_eq_false_iff_eq.mpr c35
               clear c35
               have H' := Aside0.mk H
               clear H
               have p260 : 0 ≤ (x40_1 : Int) := of_decide_eq_true (by first | (with_reducible assumption) | assumption)
               have q260 : x40_1 < (l0.length : Int) := of_decide_eq_true (by first | (with_reducible assumption) | assumption)
               obtain ⟨ad260, e260, hx260_0, hx260_1⟩ := at_T30 HR0.out x40_1 p260 q260
               obtain rfl : ad253 = ad260 := (by injection e260)
               replace hx260_0 := (HB.out.cell (bL w _ hx260_0)).trans hx260_0
               replace hx260_1 := (HB.out.cell (bL w _ hx260_1)).trans hx260_1
               replace p260 := eq_true p260
               replace q260 := eq_true q260
               go_wp2_with (first | ((with_reducible refine gate_dst (N := 10) rfl ?_); refine box_event ?hg (N := 10) ?hd (cs := #[.int .i64 0, .int .i64 0]) (t := 30) ?hr ?_; (case hd => rfl); (case hg => rfl); (case hr => first | (go_simp; done) | (go_simp; rfl)); intro gb261 hg w36 hbox hb; have n0_ := kb BK256 hb; have n1_ := kb BK257 hb; have n2_ := kb BK258 hb; have n3_ := sb hb; have n4_ := Aside0.mk (hbox); have n5_ := zb hg; have n6_ := zb hg; have n7_ := nl BK256 hg; have n8_ := ng BK256 hg; have n9_ := nl BK257 hg; have n10_ := ng BK257 hg; have n11_ := nl BK258 hg; have n12_ := ng BK258 hg; clear BK256; clear BK257; clear BK258; clear HB; have BK256 := n0_; have BK257 := n1_; have BK258 := n2_; have HB := n3_; have BK261 := n4_; have GW261 := n5_; have GE261 := n6_; have NB256_261 := n7_; have NB261_256 := n8_; have NB257_261 := n9_; have NB261_257 := n10_; have NB258_261 := n11_; have NB261_258 := n12_; clear n0_ n1_ n2_ n3_ n4_ n5_ n6_ n7_ n8_ n9_ n10_ n11_ n12_; clear hb hbox hg; have hnb37 := NB261_256.out; have hnc37 := NB256_261.out; have hnb38 := NB261_257.out; have hnc38 := NB257_261.out; have hnb39 := NB261_258.out; have hnc39 := NB258_261.out; have hcz40_0 := ck BK261 0; have hcz40_1 := ck BK261 1; have hfz40_0 := blk_frozen BK261.out 0; have hfz40_1 := blk_frozen BK261.out 1))
               go_roundg k1
               case measure => have := HK1.out; omega
               case rel => exact ⟨(wrap64 (x40_1 + 1)), (by first | rfl | (simp; done) | (simp [*]; done)), H', ⟨by have := HK1.out; omega⟩, ⟨by (with_reducible repeat (first | refine blk_drewN ?_ _ | refine blk_drew ?_ | refine blk_alloc ?_ _)); refine blk_far ?_ NB256_261.out _; (with_reducible repeat (first | refine blk_drewN ?_ _ | refine blk_drew ?_ | refine blk_alloc ?_ _)); refine blk_far ?_ NB256_261.out _; (with_reducible repeat (first | refine blk_drewN ?_ _ | refine blk_drew ?_ | refine blk_alloc ?_ _)); exact BK256.out⟩, ⟨by (with_reducible repeat (first | refine blk_drewN ?_ _ | refine blk_drew ?_ | refine blk_alloc ?_ _)); refine blk_far ?_ NB257_261.out _; (with_reducible repeat (first | refine blk_drewN ?_ _ | refine blk_drew ?_ | refine blk_alloc ?_ _)); refine blk_far ?_ NB257_261.out _; (with_reducible repeat (first | refine blk_drewN ?_ _ | refine blk_drew ?_ | refine blk_alloc ?_ _)); exact BK257.out⟩, ⟨by (with_reducible repeat (first | refine blk_drewN ?_ _ | refine blk_drew ?_ | refine blk_alloc ?_ _)); refine blk_far ?_ NB258_261.out _; (with_reducible repeat (first | refine blk_drewN ?_ _ | refine blk_drew ?_ | refine blk_alloc ?_ _)); refine blk_far ?_ NB258_261.out _; (with_reducible repeat (first | refine blk_drewN ?_ _ | refine blk_drew ?_ | refine blk_alloc ?_ _)); exact BK258.out⟩, ⟨by repeat (first | (with_reducible first | exact HB.out | apply below_alloc | apply pw_below_drewN | apply below_drew1 | refine below_set ?_ GE256.out | refine below_set ?_ GE257.out | refine below_set ?_ GE258.out | refine below_set ?_ GE261.out) | exact HB.out)⟩⟩
              ·rw [if_neg c35] at H
               have c35b0 : (x40_1 == a1) = false := beq_eq_false_iff_ne.mpr c35
               have c35b1 : (x40_1 != a1) = true := bne_iff_ne.mpr c35
               by_cases c41 : (l0.length : Int) = 0
               ·rw [if_pos c41] at H
                exact absurd H (by simp)
               ·rw [if_neg c41] at H
                have c41b0 : ((l0.length : Int) == 0) = false := beq_eq_false_iff_ne.mpr c41
                have c41b1 : ((l0.length : Int) != 0) = true := bne_iff_ne.mpr c41
                have c41b2 : ¬ (l0 = []) := fun h_ => c41 (by rw [h_]; rfl)
                by_cases c42 : x40_1 = (Int.tmod (wrap64 ((wrap64 (a1 + (l0.length : Int))) - 1)) (l0.length : Int))
                ·rw [if_pos c42] at H
                 have c42b0 : (x40_1 == (Int.tmod (wrap64 ((wrap64 (a1 + (l0.length : Int))) - 1)) (l0.length : Int))) = true := beq_iff_eq.mpr c42
                 rw [hji4] at c42b0
                 have c42b1 : (x40_1 != (Int.tmod (wrap64 ((wrap64 (a1 + (l0.length : Int))) - 1)) (l0.length : Int))) = false := bne_eq_false_iff_eq.mpr c42
                 rw [hji4] at c42b1
                 clear c42
                 have H' := Aside0.mk H
                 clear H
                 have p260 : 0 ≤ (x40_1 : Int) := of_decide_eq_true (by first | (with_reducible assumption) | assumption)
                 have q260 : x40_1 < (l0.length : Int) := of_decide_eq_true (by first | (with_reducible assumption) | assumption)
                 obtain ⟨ad260, e260, hx260_0, hx260_1⟩ := at_T30 HR0.out x40_1 p260 q260
                 obtain rfl : ad253 = ad260 := (by injection e260)
                 replace hx260_0 := (HB.out.cell (bL w _ hx260_0)).trans hx260_0
                 replace hx260_1 := (HB.out.cell (bL w _ hx260_1)).trans hx260_1
                 replace p260 := eq_true p260
                 replace q260 := eq_true q260
                 go_wp2_with (first | ((with_reducible refine gate_dst (N := 10) rfl ?_); refine box_event ?hg (N := 10) ?hd (cs := #[.int .i64 0, .int .i64 0]) (t := 30) ?hr ?_; (case hd => rfl); (case hg => rfl); (case hr => first | (go_simp; done) | (go_simp; rfl)); intro gb261 hg w43 hbox hb; have n0_ := kb BK256 hb; have n1_ := kb BK257 hb; have n2_ := kb BK258 hb; have n3_ := sb hb; have n4_ := Aside0.mk (hbox); have n5_ := zb hg; have n6_ := zb hg; have n7_ := nl BK256 hg; have n8_ := ng BK256 hg; have n9_ := nl BK257 hg; have n10_ := ng BK257 hg; have n11_ := nl BK258 hg; have n12_ := ng BK258 hg; clear BK256; clear BK257; clear BK258; clear HB; have BK256 := n0_; have BK257 := n1_; have BK258 := n2_; have HB := n3_; have BK261 := n4_; have GW261 := n5_; have GE261 := n6_; have NB256_261 := n7_; have NB261_256 := n8_; have NB257_261 := n9_; have NB261_257 := n10_; have NB258_261 := n11_; have NB261_258 := n12_; clear n0_ n1_ n2_ n3_ n4_ n5_ n6_ n7_ n8_ n9_ n10_ n11_ n12_; clear hb hbox hg; have hnb44 := NB261_256.out; have hnc44 := NB256_261.out; have hnb45 := NB261_257.out; have hnc45 := NB257_261.out; have hnb46 := NB261_258.out; have hnc46 := NB258_261.out; have hcz47_0 := ck BK261 0; have hcz47_1 := ck BK261 1; have hfz47_0 := blk_frozen BK261.out 0; have hfz47_1 := blk_frozen BK261.out 1))
                 go_roundg k1
                 case measure => have := HK1.out; omega
                 case rel => exact ⟨(wrap64 (x40_1 + 1)), (by first | rfl | (simp; done) | (simp [*]; done)), H', ⟨by have := HK1.out; omega⟩, ⟨by (with_reducible repeat (first | refine blk_drewN ?_ _ | refine blk_drew ?_ | refine blk_alloc ?_ _)); refine blk_far ?_ NB256_261.out _; (with_reducible repeat (first | refine blk_drewN ?_ _ | refine blk_drew ?_ | refine blk_alloc ?_ _)); refine blk_far ?_ NB256_261.out _; (with_reducible repeat (first | refine blk_drewN ?_ _ | refine blk_drew ?_ | refine blk_alloc ?_ _)); exact BK256.out⟩, ⟨by (with_reducible repeat (first | refine blk_drewN ?_ _ | refine blk_drew ?_ | refine blk_alloc ?_ _)); refine blk_far ?_ NB257_261.out _; (with_reducible repeat (first | refine blk_drewN ?_ _ | refine blk_drew ?_ | refine blk_alloc ?_ _)); refine blk_far ?_ NB257_261.out _; (with_reducible repeat (first | refine blk_drewN ?_ _ | refine blk_drew ?_ | refine blk_alloc ?_ _)); exact BK257.out⟩, ⟨by (with_reducible repeat (first | refine blk_drewN ?_ _ | refine blk_drew ?_ | refine blk_alloc ?_ _)); refine blk_far ?_ NB258_261.out _; (with_reducible repeat (first | refine blk_drewN ?_ _ | refine blk_drew ?_ | refine blk_alloc ?_ _)); refine blk_far ?_ NB258_261.out _; (with_reducible repeat (first | refine blk_drewN ?_ _ | refine blk_drew ?_ | refine blk_alloc ?_ _)); exact BK258.out⟩, ⟨by repeat (first | (with_reducible first | exact HB.out | apply below_alloc | apply pw_below_drewN | apply below_drew1 | refine below_set ?_ GE256.out | refine below_set ?_ GE257.out | refine below_set ?_ GE258.out | refine below_set ?_ GE261.out) | exact HB.out)⟩⟩
                ·rw [if_neg c42] at H
                 have c42b0 : (x40_1 == (Int.tmod (wrap64 ((wrap64 (a1 + (l0.length : Int))) - 1)) (l0.length : Int))) = false := beq_eq_false_iff_ne.mpr c42
                 rw [hji4] at c42b0
                 have c42b1 : (x40_1 != (Int.tmod (wrap64 ((wrap64 (a1 + (l0.length : Int))) - 1)) (l0.length : Int))) = true := bne_iff_ne.mpr c42
                 rw [hji4] at c42b1
                 by_cases c48 : x40_1 = (Int.tmod (wrap64 (a1 + 1)) (l0.length : Int))
                 ·rw [if_pos c48] at H
                  have c48b0 : (x40_1 == (Int.tmod (wrap64 (a1 + 1)) (l0.length : Int))) = true := beq_iff_eq.mpr c48
                  rw [hji9] at c48b0
                  have c48b1 : (x40_1 != (Int.tmod (wrap64 (a1 + 1)) (l0.length : Int))) = false := bne_eq_false_iff_eq.mpr c48
                  rw [hji9] at c48b1
                  clear c48
                  have H' := Aside0.mk H
                  clear H
                  have p260 : 0 ≤ (x40_1 : Int) := of_decide_eq_true (by first | (with_reducible assumption) | assumption)
                  have q260 : x40_1 < (l0.length : Int) := of_decide_eq_true (by first | (with_reducible assumption) | assumption)
                  obtain ⟨ad260, e260, hx260_0, hx260_1⟩ := at_T30 HR0.out x40_1 p260 q260
                  obtain rfl : ad253 = ad260 := (by injection e260)
                  replace hx260_0 := (HB.out.cell (bL w _ hx260_0)).trans hx260_0
                  replace hx260_1 := (HB.out.cell (bL w _ hx260_1)).trans hx260_1
                  replace p260 := eq_true p260
                  replace q260 := eq_true q260
                  go_wp2_with (first | ((with_reducible refine gate_dst (N := 10) rfl ?_); refine box_event ?hg (N := 10) ?hd (cs := #[.int .i64 0, .int .i64 0]) (t := 30) ?hr ?_; (case hd => rfl); (case hg => rfl); (case hr => first | (go_simp; done) | (go_simp; rfl)); intro gb261 hg w49 hbox hb; have n0_ := kb BK256 hb; have n1_ := kb BK257 hb; have n2_ := kb BK258 hb; have n3_ := sb hb; have n4_ := Aside0.mk (hbox); have n5_ := zb hg; have n6_ := zb hg; have n7_ := nl BK256 hg; have n8_ := ng BK256 hg; have n9_ := nl BK257 hg; have n10_ := ng BK257 hg; have n11_ := nl BK258 hg; have n12_ := ng BK258 hg; clear BK256; clear BK257; clear BK258; clear HB; have BK256 := n0_; have BK257 := n1_; have BK258 := n2_; have HB := n3_; have BK261 := n4_; have GW261 := n5_; have GE261 := n6_; have NB256_261 := n7_; have NB261_256 := n8_; have NB257_261 := n9_; have NB261_257 := n10_; have NB258_261 := n11_; have NB261_258 := n12_; clear n0_ n1_ n2_ n3_ n4_ n5_ n6_ n7_ n8_ n9_ n10_ n11_ n12_; clear hb hbox hg; have hnb50 := NB261_256.out; have hnc50 := NB256_261.out; have hnb51 := NB261_257.out; have hnc51 := NB257_261.out; have hnb52 := NB261_258.out; have hnc52 := NB258_261.out; have hcz53_0 := ck BK261 0; have hcz53_1 := ck BK261 1; have hfz53_0 := blk_frozen BK261.out 0; have hfz53_1 := blk_frozen BK261.out 1))
                  go_roundg k1
                  case measure => have := HK1.out; omega
                  case rel => exact ⟨(wrap64 (x40_1 + 1)), (by first | rfl | (simp; done) | (simp [*]; done)), H', ⟨by have := HK1.out; omega⟩, ⟨by (with_reducible repeat (first | refine blk_drewN ?_ _ | refine blk_drew ?_ | refine blk_alloc ?_ _)); refine blk_far ?_ NB256_261.out _; (with_reducible repeat (first | refine blk_drewN ?_ _ | refine blk_drew ?_ | refine blk_alloc ?_ _)); refine blk_far ?_ NB256_261.out _; (with_reducible repeat (first | refine blk_drewN ?_ _ | refine blk_drew ?_ | refine blk_alloc ?_ _)); exact BK256.out⟩, ⟨by (with_reducible repeat (first | refine blk_drewN ?_ _ | refine blk_drew ?_ | refine blk_alloc ?_ _)); refine blk_far ?_ NB257_261.out _; (with_reducible repeat (first | refine blk_drewN ?_ _ | refine blk_drew ?_ | refine blk_alloc ?_ _)); refine blk_far ?_ NB257_261.out _; (with_reducible repeat (first | refine blk_drewN ?_ _ | refine blk_drew ?_ | refine blk_alloc ?_ _)); exact BK257.out⟩, ⟨by (with_reducible repeat (first | refine blk_drewN ?_ _ | refine blk_drew ?_ | refine blk_alloc ?_ _)); refine blk_far ?_ NB258_261.out _; (with_reducible repeat (first | refine blk_drewN ?_ _ | refine blk_drew ?_ | refine blk_alloc ?_ _)); refine blk_far ?_ NB258_261.out _; (with_reducible repeat (first | refine blk_drewN ?_ _ | refine blk_drew ?_ | refine blk_alloc ?_ _)); exact BK258.out⟩, ⟨by repeat (first | (with_reducible first | exact HB.out | apply below_alloc | apply pw_below_drewN | apply below_drew1 | refine below_set ?_ GE256.out | refine below_set ?_ GE257.out | refine below_set ?_ GE258.out | refine below_set ?_ GE261.out) | exact HB.out)⟩⟩
                 ·rw [if_neg c48] at H
                  have c48b0 : (x40_1 == (Int.tmod (wrap64 (a1 + 1)) (l0.length : Int))) = false := beq_eq_false_iff_ne.mpr c48
                  rw [hji9] at c48b0
                  have c48b1 : (x40_1 != (Int.tmod (wrap64 (a1 + 1)) (l0.length : Int))) = true := bne_iff_ne.mpr c48
                  rw [hji9] at c48b1
                  replace H := Option.bind_eq_some_iff.mp H
                  obtain ⟨t262, A540, H⟩ := H
                  replace H : (if t262 = true then (some false) else (impl_ear.l0 k1 a1 (l0.length : Int) l0 (l0.length : Int) (wrap64 (x40_1 + 1)) ((rd_T30 l0 (ji4)).f0) ((rd_T30 l0 (ji4)).f1) ((rd_T30 l0 a1).f0) ((rd_T30 l0 a1).f1) ((rd_T30 l0 (ji9)).f0) ((rd_T30 l0 (ji9)).f1))) = some r := H
                  have A54 := Aside0.mk A540
                  clear A540
                  by_cases c55 : t262 = true
                  ·subst c55
                   have H1 : (some false) = some r := by rw [if_pos rfl] at H; exact H
                   clear H
                   have H := H1
                   clear H1
                   obtain rfl := Option.some.inj H
                   have p260 : 0 ≤ (x40_1 : Int) := of_decide_eq_true (by first | (with_reducible assumption) | assumption)
                   have q260 : x40_1 < (l0.length : Int) := of_decide_eq_true (by first | (with_reducible assumption) | assumption)
                   obtain ⟨ad260, e260, hx260_0, hx260_1⟩ := at_T30 HR0.out x40_1 p260 q260
                   obtain rfl : ad253 = ad260 := (by injection e260)
                   replace hx260_0 := (HB.out.cell (bL w _ hx260_0)).trans hx260_0
                   replace hx260_1 := (HB.out.cell (bL w _ hx260_1)).trans hx260_1
                   replace p260 := eq_true p260
                   replace q260 := eq_true q260
                   go_wp2_with (first | ((with_reducible refine gate_dst (N := 10) rfl ?_); refine box_event ?hg (N := 10) ?hd (cs := #[.int .i64 0, .int .i64 0]) (t := 30) ?hr ?_; (case hd => rfl); (case hg => rfl); (case hr => first | (go_simp; done) | (go_simp; rfl)); intro gb261 hg w56 hbox hb; have n0_ := kb BK256 hb; have n1_ := kb BK257 hb; have n2_ := kb BK258 hb; have n3_ := sb hb; have n4_ := Aside0.mk (hbox); have n5_ := zb hg; have n6_ := zb hg; have n7_ := nl BK256 hg; have n8_ := ng BK256 hg; have n9_ := nl BK257 hg; have n10_ := ng BK257 hg; have n11_ := nl BK258 hg; have n12_ := ng BK258 hg; clear BK256; clear BK257; clear BK258; clear HB; have BK256 := n0_; have BK257 := n1_; have BK258 := n2_; have HB := n3_; have BK261 := n4_; have GW261 := n5_; have GE261 := n6_; have NB256_261 := n7_; have NB261_256 := n8_; have NB257_261 := n9_; have NB261_257 := n10_; have NB258_261 := n11_; have NB261_258 := n12_; clear n0_ n1_ n2_ n3_ n4_ n5_ n6_ n7_ n8_ n9_ n10_ n11_ n12_; clear hb hbox hg; have hnb57 := NB261_256.out; have hnc57 := NB256_261.out; have hnb58 := NB261_257.out; have hnc58 := NB257_261.out; have hnb59 := NB261_258.out; have hnc59 := NB258_261.out; have hcz60_0 := ck BK261 0; have hcz60_1 := ck BK261 1; have hfz60_0 := blk_frozen BK261.out 0; have hfz60_1 := blk_frozen BK261.out 1; have hnb61 := NB256_257.out; have hnc61 := NB257_256.out; have hnb62 := NB256_258.out; have hnc62 := NB258_256.out; have hcz63_0 := ck BK256 0; have hcz63_1 := ck BK256 1; have hfz63_0 := blk_frozen BK256.out 0; have hfz63_1 := blk_frozen BK256.out 1; have hnb64 := NB257_258.out; have hnc64 := NB258_257.out; have hcz65_0 := ck BK257 0; have hcz65_1 := ck BK257 1; have hfz65_0 := blk_frozen BK257.out 0; have hfz65_1 := blk_frozen BK257.out 1; have hcz66_0 := ck BK258 0; have hcz66_1 := ck BK258 1; have hfz66_0 := blk_frozen BK258.out 0; have hfz66_1 := blk_frozen BK258.out 1) | (go_at_call 94; (with_reducible refine (impl_inTriangle.calls ((rd_T30 l0 (ji4)).f0) ((rd_T30 l0 (ji4)).f1) ((rd_T30 l0 a1).f0) ((rd_T30 l0 a1).f1) ((rd_T30 l0 (ji9)).f0) ((rd_T30 l0 (ji9)).f1) ((rd_T30 l0 x40_1).f0) ((rd_T30 l0 x40_1).f1) true _ A54.out).mono ?_); rintro e w67 ⟨rfl, hb⟩; have n0_ := Aside0.mk (blk_below (g := gb256) (o := .cells #[.int .i64 ((rd_T30 l0 (ji4)).f0), .int .i64 ((rd_T30 l0 (ji4)).f1)] 30 (0, 0)) (by (with_reducible repeat (first | refine blk_drewN ?_ _ | refine blk_drew ?_ | refine blk_alloc ?_ _)); refine blk_far ?_ NB256_261.out _; (with_reducible repeat (first | refine blk_drewN ?_ _ | refine blk_drew ?_ | refine blk_alloc ?_ _)); refine blk_far ?_ NB256_261.out _; (with_reducible repeat (first | refine blk_drewN ?_ _ | refine blk_drew ?_ | refine blk_alloc ?_ _)); exact BK256.out) hb); have n1_ := Aside0.mk (blk_below (g := gb257) (o := .cells #[.int .i64 ((rd_T30 l0 a1).f0), .int .i64 ((rd_T30 l0 a1).f1)] 30 (0, 0)) (by (with_reducible repeat (first | refine blk_drewN ?_ _ | refine blk_drew ?_ | refine blk_alloc ?_ _)); refine blk_far ?_ NB257_261.out _; (with_reducible repeat (first | refine blk_drewN ?_ _ | refine blk_drew ?_ | refine blk_alloc ?_ _)); refine blk_far ?_ NB257_261.out _; (with_reducible repeat (first | refine blk_drewN ?_ _ | refine blk_drew ?_ | refine blk_alloc ?_ _)); exact BK257.out) hb); have n2_ := Aside0.mk (blk_below (g := gb258) (o := .cells #[.int .i64 ((rd_T30 l0 (ji9)).f0), .int .i64 ((rd_T30 l0 (ji9)).f1)] 30 (0, 0)) (by (with_reducible repeat (first | refine blk_drewN ?_ _ | refine blk_drew ?_ | refine blk_alloc ?_ _)); refine blk_far ?_ NB258_261.out _; (with_reducible repeat (first | refine blk_drewN ?_ _ | refine blk_drew ?_ | refine blk_alloc ?_ _)); refine blk_far ?_ NB258_261.out _; (with_reducible repeat (first | refine blk_drewN ?_ _ | refine blk_drew ?_ | refine blk_alloc ?_ _)); exact BK258.out) hb); have n3_ := Aside0.mk (blk_below (g := gb261) (o := .cells #[.int .i64 ((rd_T30 l0 x40_1).f0), .int .i64 ((rd_T30 l0 x40_1).f1)] 30 (0, 0)) (by (with_reducible repeat (first | refine blk_drewN ?_ _ | refine blk_drew ?_ | refine blk_alloc ?_ _)); refine blk_put (cs := #[.int .i64 ((rd_T30 l0 x40_1).f0), .int .i64 0]) ?_ 1 _ rfl; (with_reducible repeat (first | refine blk_drewN ?_ _ | refine blk_drew ?_ | refine blk_alloc ?_ _)); refine blk_put (cs := #[.int .i64 0, .int .i64 0]) ?_ 0 _ rfl; (with_reducible repeat (first | refine blk_drewN ?_ _ | refine blk_drew ?_ | refine blk_alloc ?_ _)); exact BK261.out) hb); have n4_ := sb hb; clear BK256; clear BK257; clear BK258; clear BK261; clear HB; have BK256 := n0_; have BK257 := n1_; have BK258 := n2_; have BK261 := n3_; have HB := n4_; clear n0_ n1_ n2_ n3_ n4_; (try clear hb); (try clear hb2); (try clear hk); (try clear hi)))
                   go_ret
                   exact ⟨by first | rfl | (simp [errW_none, errW_some] <;> rfl) | (simp only [← hji4, ← hji9]; first | rfl | (simp [errW_none, errW_some] <;> rfl)) | (simp [*, errW_none, errW_some] <;> rfl), by repeat (first | (with_reducible first | exact HB.out | apply below_alloc | apply pw_below_drewN | apply below_drew1 | refine below_set ?_ GE256.out | refine below_set ?_ GE257.out | refine below_set ?_ GE258.out | refine below_set ?_ GE261.out) | exact HB.out)⟩
                  ·replace c55 := Bool.eq_false_iff.mpr c55
                   subst c55
                   have H1 : (impl_ear.l0 k1 a1 (l0.length : Int) l0 (l0.length : Int) (wrap64 (x40_1 + 1)) ((rd_T30 l0 (ji4)).f0) ((rd_T30 l0 (ji4)).f1) ((rd_T30 l0 a1).f0) ((rd_T30 l0 a1).f1) ((rd_T30 l0 (ji9)).f0) ((rd_T30 l0 (ji9)).f1)) = some r := by rw [if_neg (show ¬ (false = true) by decide)] at H; exact H
                   clear H
                   have H := H1
                   clear H1
                   have H' := Aside0.mk H
                   clear H
                   have p260 : 0 ≤ (x40_1 : Int) := of_decide_eq_true (by first | (with_reducible assumption) | assumption)
                   have q260 : x40_1 < (l0.length : Int) := of_decide_eq_true (by first | (with_reducible assumption) | assumption)
                   obtain ⟨ad260, e260, hx260_0, hx260_1⟩ := at_T30 HR0.out x40_1 p260 q260
                   obtain rfl : ad253 = ad260 := (by injection e260)
                   replace hx260_0 := (HB.out.cell (bL w _ hx260_0)).trans hx260_0
                   replace hx260_1 := (HB.out.cell (bL w _ hx260_1)).trans hx260_1
                   replace p260 := eq_true p260
                   replace q260 := eq_true q260
                   go_wp2_with (first | ((with_reducible refine gate_dst (N := 10) rfl ?_); refine box_event ?hg (N := 10) ?hd (cs := #[.int .i64 0, .int .i64 0]) (t := 30) ?hr ?_; (case hd => rfl); (case hg => rfl); (case hr => first | (go_simp; done) | (go_simp; rfl)); intro gb261 hg w68 hbox hb; have n0_ := kb BK256 hb; have n1_ := kb BK257 hb; have n2_ := kb BK258 hb; have n3_ := sb hb; have n4_ := Aside0.mk (hbox); have n5_ := zb hg; have n6_ := zb hg; have n7_ := nl BK256 hg; have n8_ := ng BK256 hg; have n9_ := nl BK257 hg; have n10_ := ng BK257 hg; have n11_ := nl BK258 hg; have n12_ := ng BK258 hg; clear BK256; clear BK257; clear BK258; clear HB; have BK256 := n0_; have BK257 := n1_; have BK258 := n2_; have HB := n3_; have BK261 := n4_; have GW261 := n5_; have GE261 := n6_; have NB256_261 := n7_; have NB261_256 := n8_; have NB257_261 := n9_; have NB261_257 := n10_; have NB258_261 := n11_; have NB261_258 := n12_; clear n0_ n1_ n2_ n3_ n4_ n5_ n6_ n7_ n8_ n9_ n10_ n11_ n12_; clear hb hbox hg; have hnb69 := NB261_256.out; have hnc69 := NB256_261.out; have hnb70 := NB261_257.out; have hnc70 := NB257_261.out; have hnb71 := NB261_258.out; have hnc71 := NB258_261.out; have hcz72_0 := ck BK261 0; have hcz72_1 := ck BK261 1; have hfz72_0 := blk_frozen BK261.out 0; have hfz72_1 := blk_frozen BK261.out 1; have hnb73 := NB256_257.out; have hnc73 := NB257_256.out; have hnb74 := NB256_258.out; have hnc74 := NB258_256.out; have hcz75_0 := ck BK256 0; have hcz75_1 := ck BK256 1; have hfz75_0 := blk_frozen BK256.out 0; have hfz75_1 := blk_frozen BK256.out 1; have hnb76 := NB257_258.out; have hnc76 := NB258_257.out; have hcz77_0 := ck BK257 0; have hcz77_1 := ck BK257 1; have hfz77_0 := blk_frozen BK257.out 0; have hfz77_1 := blk_frozen BK257.out 1; have hcz78_0 := ck BK258 0; have hcz78_1 := ck BK258 1; have hfz78_0 := blk_frozen BK258.out 0; have hfz78_1 := blk_frozen BK258.out 1) | (go_at_call 94; (with_reducible refine (impl_inTriangle.calls ((rd_T30 l0 (ji4)).f0) ((rd_T30 l0 (ji4)).f1) ((rd_T30 l0 a1).f0) ((rd_T30 l0 a1).f1) ((rd_T30 l0 (ji9)).f0) ((rd_T30 l0 (ji9)).f1) ((rd_T30 l0 x40_1).f0) ((rd_T30 l0 x40_1).f1) false _ A54.out).mono ?_); rintro e w79 ⟨rfl, hb⟩; have n0_ := Aside0.mk (blk_below (g := gb256) (o := .cells #[.int .i64 ((rd_T30 l0 (ji4)).f0), .int .i64 ((rd_T30 l0 (ji4)).f1)] 30 (0, 0)) (by (with_reducible repeat (first | refine blk_drewN ?_ _ | refine blk_drew ?_ | refine blk_alloc ?_ _)); refine blk_far ?_ NB256_261.out _; (with_reducible repeat (first | refine blk_drewN ?_ _ | refine blk_drew ?_ | refine blk_alloc ?_ _)); refine blk_far ?_ NB256_261.out _; (with_reducible repeat (first | refine blk_drewN ?_ _ | refine blk_drew ?_ | refine blk_alloc ?_ _)); exact BK256.out) hb); have n1_ := Aside0.mk (blk_below (g := gb257) (o := .cells #[.int .i64 ((rd_T30 l0 a1).f0), .int .i64 ((rd_T30 l0 a1).f1)] 30 (0, 0)) (by (with_reducible repeat (first | refine blk_drewN ?_ _ | refine blk_drew ?_ | refine blk_alloc ?_ _)); refine blk_far ?_ NB257_261.out _; (with_reducible repeat (first | refine blk_drewN ?_ _ | refine blk_drew ?_ | refine blk_alloc ?_ _)); refine blk_far ?_ NB257_261.out _; (with_reducible repeat (first | refine blk_drewN ?_ _ | refine blk_drew ?_ | refine blk_alloc ?_ _)); exact BK257.out) hb); have n2_ := Aside0.mk (blk_below (g := gb258) (o := .cells #[.int .i64 ((rd_T30 l0 (ji9)).f0), .int .i64 ((rd_T30 l0 (ji9)).f1)] 30 (0, 0)) (by (with_reducible repeat (first | refine blk_drewN ?_ _ | refine blk_drew ?_ | refine blk_alloc ?_ _)); refine blk_far ?_ NB258_261.out _; (with_reducible repeat (first | refine blk_drewN ?_ _ | refine blk_drew ?_ | refine blk_alloc ?_ _)); refine blk_far ?_ NB258_261.out _; (with_reducible repeat (first | refine blk_drewN ?_ _ | refine blk_drew ?_ | refine blk_alloc ?_ _)); exact BK258.out) hb); have n3_ := Aside0.mk (blk_below (g := gb261) (o := .cells #[.int .i64 ((rd_T30 l0 x40_1).f0), .int .i64 ((rd_T30 l0 x40_1).f1)] 30 (0, 0)) (by (with_reducible repeat (first | refine blk_drewN ?_ _ | refine blk_drew ?_ | refine blk_alloc ?_ _)); refine blk_put (cs := #[.int .i64 ((rd_T30 l0 x40_1).f0), .int .i64 0]) ?_ 1 _ rfl; (with_reducible repeat (first | refine blk_drewN ?_ _ | refine blk_drew ?_ | refine blk_alloc ?_ _)); refine blk_put (cs := #[.int .i64 0, .int .i64 0]) ?_ 0 _ rfl; (with_reducible repeat (first | refine blk_drewN ?_ _ | refine blk_drew ?_ | refine blk_alloc ?_ _)); exact BK261.out) hb); have n4_ := sb hb; clear BK256; clear BK257; clear BK258; clear BK261; clear HB; have BK256 := n0_; have BK257 := n1_; have BK258 := n2_; have BK261 := n3_; have HB := n4_; clear n0_ n1_ n2_ n3_ n4_; (try clear hb); (try clear hb2); (try clear hk); (try clear hi)))
                   go_roundg k1
                   case measure => have := HK1.out; omega
                   case rel => exact ⟨(wrap64 (x40_1 + 1)), (by first | rfl | (simp; done) | (simp [*]; done)), H', ⟨by have := HK1.out; omega⟩, ⟨by (with_reducible repeat (first | refine blk_drewN ?_ _ | refine blk_drew ?_ | refine blk_alloc ?_ _)); exact BK256.out⟩, ⟨by (with_reducible repeat (first | refine blk_drewN ?_ _ | refine blk_drew ?_ | refine blk_alloc ?_ _)); exact BK257.out⟩, ⟨by (with_reducible repeat (first | refine blk_drewN ?_ _ | refine blk_drew ?_ | refine blk_alloc ?_ _)); exact BK258.out⟩, ⟨by repeat (first | (with_reducible first | exact HB.out | apply below_alloc | apply pw_below_drewN | apply below_drew1 | refine below_set ?_ GE256.out | refine below_set ?_ GE257.out | refine below_set ?_ GE258.out | refine below_set ?_ GE261.out) | exact HB.out)⟩⟩
             ·first | (exfalso; have z_ := of_decide_eq_true c32b0; omega) | (rw [if_neg c34] at H; exact absurd H (by simp))
            ·rw [if_neg c33] at H
             exact absurd H (by simp)
           ·rw [if_neg c32] at H
            have c32b0 : decide (x40_1 < (l0.length : Int)) = false := decide_eq_false c32
            clear c32
            obtain rfl := Option.some.inj H
            go_wp2
            go_ret
            exact ⟨by first | rfl | (simp [errW_none, errW_some] <;> rfl) | (simp only [← hji4, ← hji9]; first | rfl | (simp [errW_none, errW_some] <;> rfl)) | (simp [*, errW_none, errW_some] <;> rfl), by repeat (first | (with_reducible first | exact HB.out | apply below_alloc | apply pw_below_drewN | apply below_drew1 | refine below_set ?_ GE256.out | refine below_set ?_ GE257.out | refine below_set ?_ GE258.out) | exact HB.out)⟩
        ·rw [if_neg c13] at H
         have c13b0 : (t259 == 1) = false := beq_eq_false_iff_ne.mpr c13
         have c13b1 : (t259 != 1) = true := bne_iff_ne.mpr c13
         obtain rfl := Option.some.inj H
         go_enter Try.func75, Try.ntmps75
         try go_wp2
         have n0_ := Aside0.mk (below_drew1 HB.out)
         clear HB
         have HB := n0_
         clear n0_
         have p253 : 0 ≤ ((ji4) : Int) := of_decide_eq_true (by first | (with_reducible assumption) | assumption)
         have q253 : (ji4) < (l0.length : Int) := of_decide_eq_true (by first | (with_reducible assumption) | assumption)
         obtain ⟨ad253, e253, hx253_0, hx253_1⟩ := at_T30 HR0.out (ji4) p253 q253
         have hw253_1 := hx253_1
         have hw253_0 := hx253_0
         cases e253
         replace hx253_0 := (HB.out.cell (bL w _ hx253_0)).trans hx253_0
         replace hx253_1 := (HB.out.cell (bL w _ hx253_1)).trans hx253_1
         replace p253 := eq_true p253
         replace q253 := eq_true q253
         have p254 : 0 ≤ (a1 : Int) := of_decide_eq_true (by first | (with_reducible assumption) | assumption)
         have q254 : a1 < (l0.length : Int) := of_decide_eq_true (by first | (with_reducible assumption) | assumption)
         obtain ⟨ad254, e254, hx254_0, hx254_1⟩ := at_T30 HR0.out a1 p254 q254
         have hw254_1 := hx254_1
         have hw254_0 := hx254_0
         obtain rfl : ad253 = ad254 := (by injection e254)
         replace hx254_0 := (HB.out.cell (bL w _ hx254_0)).trans hx254_0
         replace hx254_1 := (HB.out.cell (bL w _ hx254_1)).trans hx254_1
         replace p254 := eq_true p254
         replace q254 := eq_true q254
         have p255 : 0 ≤ ((ji9) : Int) := of_decide_eq_true (by first | (with_reducible assumption) | assumption)
         have q255 : (ji9) < (l0.length : Int) := of_decide_eq_true (by first | (with_reducible assumption) | assumption)
         obtain ⟨ad255, e255, hx255_0, hx255_1⟩ := at_T30 HR0.out (ji9) p255 q255
         have hw255_1 := hx255_1
         have hw255_0 := hx255_0
         obtain rfl : ad253 = ad255 := (by injection e255)
         replace hx255_0 := (HB.out.cell (bL w _ hx255_0)).trans hx255_0
         replace hx255_1 := (HB.out.cell (bL w _ hx255_1)).trans hx255_1
         replace p255 := eq_true p255
         replace q255 := eq_true q255
         refine start_ (n := 26) (S := fun w' => w'.cell? (ad253.add (((ji4)).toNat * 2)) = some (.int .i64 ((rd_T30 l0 (ji4)).f0)) ∧ w'.cell? ⟨(ad253.add (((ji4)).toNat * 2)).block, (ad253.add (((ji4)).toNat * 2)).off + 1, none⟩ = some (.int .i64 ((rd_T30 l0 (ji4)).f1)) ∧ w'.cell? (ad253.add ((a1).toNat * 2)) = some (.int .i64 ((rd_T30 l0 a1).f0)) ∧ w'.cell? ⟨(ad253.add ((a1).toNat * 2)).block, (ad253.add ((a1).toNat * 2)).off + 1, none⟩ = some (.int .i64 ((rd_T30 l0 a1).f1)) ∧ w'.cell? (ad253.add (((ji9)).toNat * 2)) = some (.int .i64 ((rd_T30 l0 (ji9)).f0)) ∧ w'.cell? ⟨(ad253.add (((ji9)).toNat * 2)).block, (ad253.add (((ji9)).toNat * 2)).off + 1, none⟩ = some (.int .i64 ((rd_T30 l0 (ji9)).f1))) (ds := []) #[fF,fF,fF,fF,fF,fF,fF,fF,fF,fF,fF,fF,fF,fF,fF,fF,fF,fF,fF,fF,fF,fF,fF,fF,fF,fF] (by kernel_rfl) rfl rfl ⟨((HB.out.cell (bL w _ hw253_0)).trans hw253_0), ((HB.out.cell (bL w _ hw253_1)).trans hw253_1), ((HB.out.cell (bL w _ hw254_0)).trans hw254_0), ((HB.out.cell (bL w _ hw254_1)).trans hw254_1), ((HB.out.cell (bL w _ hw255_0)).trans hw255_0), ((HB.out.cell (bL w _ hw255_1)).trans hw255_1)⟩ (fun hHeld => ?_); refine with_tabW impl_ear.tab2 impl_ear.bits2 (fun HT_ HW_ => ?_)
         generalize w.drew = w80 at HB hx253_0 hx253_1 hx254_0 hx254_1 hx255_0 hx255_1 hHeld ⊢
         refine pure_ (i := 0) (N := some 13) (v := ?_) (a' := ?_) #[tT,fF,fF,fF,fF,fF,fF,fF,fF,fF,fF,fF,fF,fF,fF,fF,fF,fF,fF,fF,fF,fF,fF,fF,fF,fF] rfl rfl (any_of HT_.out (by kernel_rfl)) (fun _ _ _ h => h) (Or.inl ⟨by rfl, ?_⟩) ?_ ?_
         rotate_left
         ·intro w'
          go_simp
          with_reducible rfl
         rotate_left
         ·exact pa
         refine pure_ (i := 1) (N := some 14) (v := ?_) (a' := ?_) #[tT,tT,fF,fF,fF,fF,fF,fF,fF,fF,fF,fF,fF,fF,fF,fF,fF,fF,fF,fF,fF,fF,fF,fF,fF,fF] rfl rfl (any_of HT_.out (by kernel_rfl)) (fun _ _ _ h => h) (Or.inl ⟨by rfl, ?_⟩) ?_ ?_
         rotate_left
         ·intro w'
          go_simp
          with_reducible rfl
         rotate_left
         ·exact pa
         refine pure_ (i := 2) (N := some 15) (v := ?_) (a' := ?_) #[tT,tT,tT,fF,fF,fF,fF,fF,fF,fF,fF,fF,fF,fF,fF,fF,fF,fF,fF,fF,fF,fF,fF,fF,fF,fF] rfl rfl (any_of HT_.out (by kernel_rfl)) (fun _ _ _ h => h) (Or.inl ⟨by rfl, ?_⟩) ?_ ?_
         rotate_left
         ·intro w'
          go_simp
          with_reducible rfl
         rotate_left
         ·exact pa
         refine pure_ (i := 3) (N := some 16) (v := ?_) (a' := ?_) #[tT,tT,tT,tT,fF,fF,fF,fF,fF,fF,fF,fF,fF,fF,fF,fF,fF,fF,fF,fF,fF,fF,fF,fF,fF,fF] rfl rfl (any_of HT_.out (by kernel_rfl)) (fun _ _ _ h => h) (Or.inl ⟨by rfl, ?_⟩) ?_ ?_
         rotate_left
         ·intro w'
          go_simp
          with_reducible rfl
         rotate_left
         ·exact pa
         refine pure_ (i := 4) (N := some 17) (v := ?_) (a' := ?_) #[tT,tT,tT,tT,tT,fF,fF,fF,fF,fF,fF,fF,fF,fF,fF,fF,fF,fF,fF,fF,fF,fF,fF,fF,fF,fF] rfl rfl (any_of HT_.out (by kernel_rfl)) (fun _ _ _ h => h) (Or.inl ⟨by rfl, ?_⟩) ?_ ?_
         rotate_left
         ·intro w'
          go_simp
          with_reducible rfl
         rotate_left
         ·exact pa
         refine pure_ (i := 5) (N := some 18) (v := ?_) (a' := ?_) #[tT,tT,tT,tT,tT,tT,fF,fF,fF,fF,fF,fF,fF,fF,fF,fF,fF,fF,fF,fF,fF,fF,fF,fF,fF,fF] rfl rfl (any_of HT_.out (by kernel_rfl)) (fun _ _ _ h => h) (Or.inl ⟨by rfl, ?_⟩) ?_ ?_
         rotate_left
         ·intro w'
          go_simp
          with_reducible rfl
         rotate_left
         ·exact pa
         refine pure_ (i := 6) (N := some 19) (v := ?_) (a' := ?_) #[tT,tT,tT,tT,tT,tT,tT,fF,fF,fF,fF,fF,fF,fF,fF,fF,fF,fF,fF,fF,fF,fF,fF,fF,fF,fF] rfl rfl (any_of HT_.out (by kernel_rfl)) (fun _ _ _ h => h) (Or.inl ⟨by rfl, ?_⟩) ?_ ?_
         rotate_left
         ·intro w'
          go_simp
          with_reducible rfl
         rotate_left
         ·exact pa
         refine pure_ (i := 7) (N := some 20) (v := ?_) (a' := ?_) #[tT,tT,tT,tT,tT,tT,tT,tT,fF,fF,fF,fF,fF,fF,fF,fF,fF,fF,fF,fF,fF,fF,fF,fF,fF,fF] rfl rfl (any_of HT_.out (by kernel_rfl)) (fun _ _ _ h => h) (Or.inl ⟨by rfl, ?_⟩) ?_ ?_
         rotate_left
         ·intro w'
          go_simp
          with_reducible rfl
         rotate_left
         ·exact pa
         refine pure_ (i := 9) (N := some 22) (v := ?_) (a' := ?_) #[tT,tT,tT,tT,tT,tT,tT,tT,fF,tT,fF,fF,fF,fF,fF,fF,fF,fF,fF,fF,fF,fF,fF,fF,fF,fF] rfl rfl (any_of HT_.out (by kernel_rfl)) (fun _ _ _ h => h) (Or.inl ⟨by rfl, ?_⟩) ?_ ?_
         rotate_left
         ·intro w'
          go_simp
          with_reducible rfl
         rotate_left
         ·exact pa
         refine pure_ (i := 10) (N := some 23) (v := ?_) (a' := ?_) #[tT,tT,tT,tT,tT,tT,tT,tT,fF,tT,tT,fF,fF,fF,fF,fF,fF,fF,fF,fF,fF,fF,fF,fF,fF,fF] rfl rfl (any_of HT_.out (by kernel_rfl)) (fun _ _ _ h => h) (Or.inl ⟨by rfl, ?_⟩) ?_ ?_
         rotate_left
         ·intro w'
          go_simp
          with_reducible rfl
         rotate_left
         ·exact pa
         refine pure_ (i := 11) (N := some 24) (v := ?_) (a' := ?_) #[tT,tT,tT,tT,tT,tT,tT,tT,fF,tT,tT,tT,fF,fF,fF,fF,fF,fF,fF,fF,fF,fF,fF,fF,fF,fF] rfl rfl (any_of HT_.out (by kernel_rfl)) (fun _ _ _ h => h) (Or.inl ⟨by rfl, ?_⟩) ?_ ?_
         rotate_left
         ·intro w'
          go_simp
          with_reducible rfl
         rotate_left
         ·exact pa
         refine pure_ (i := 13) (N := some 26) (v := ?_) (a' := ?_) #[tT,tT,tT,tT,tT,tT,tT,tT,fF,tT,tT,tT,fF,tT,fF,fF,fF,fF,fF,fF,fF,fF,fF,fF,fF,fF] rfl rfl (any_of HT_.out (by kernel_rfl)) (fun _ _ _ h => h) (Or.inl ⟨by rfl, ?_⟩) ?_ ?_
         rotate_left
         ·intro w'
          go_simp
          with_reducible rfl
         rotate_left
         ·exact pa
         refine pure_ (i := 14) (N := some 27) (v := ?_) (a' := ?_) #[tT,tT,tT,tT,tT,tT,tT,tT,fF,tT,tT,tT,fF,tT,tT,fF,fF,fF,fF,fF,fF,fF,fF,fF,fF,fF] rfl rfl (any_of HT_.out (by kernel_rfl)) (fun _ _ _ h => h) (Or.inl ⟨by rfl, ?_⟩) ?_ ?_
         rotate_left
         ·intro w'
          go_simp
          with_reducible rfl
         rotate_left
         ·exact pa
         refine pure_ (i := 15) (N := some 28) (v := ?_) (a' := ?_) #[tT,tT,tT,tT,tT,tT,tT,tT,fF,tT,tT,tT,fF,tT,tT,tT,fF,fF,fF,fF,fF,fF,fF,fF,fF,fF] rfl rfl (any_of HT_.out (by kernel_rfl)) (fun _ _ _ h => h) (Or.inl ⟨by rfl, ?_⟩) ?_ ?_
         rotate_left
         ·intro w'
          go_simp
          with_reducible rfl
         rotate_left
         ·exact pa
         refine pure_ (i := 16) (N := some 29) (v := ?_) (a' := ?_) #[tT,tT,tT,tT,tT,tT,tT,tT,fF,tT,tT,tT,fF,tT,tT,tT,tT,fF,fF,fF,fF,fF,fF,fF,fF,fF] rfl rfl (any_of HT_.out (by kernel_rfl)) (fun _ _ _ h => h) (Or.inl ⟨by rfl, ?_⟩) ?_ ?_
         rotate_left
         ·intro w'
          go_simp
          with_reducible rfl
         rotate_left
         ·exact pa
         refine pure_ (i := 17) (N := some 30) (v := ?_) (a' := ?_) #[tT,tT,tT,tT,tT,tT,tT,tT,fF,tT,tT,tT,fF,tT,tT,tT,tT,tT,fF,fF,fF,fF,fF,fF,fF,fF] rfl rfl (any_of HT_.out (by kernel_rfl)) (fun _ _ _ h => h) (Or.inl ⟨by rfl, ?_⟩) ?_ ?_
         rotate_left
         ·intro w'
          go_simp
          with_reducible rfl
         rotate_left
         ·exact pa
         refine pure_ (i := 18) (N := some 31) (v := ?_) (a' := ?_) #[tT,tT,tT,tT,tT,tT,tT,tT,fF,tT,tT,tT,fF,tT,tT,tT,tT,tT,tT,fF,fF,fF,fF,fF,fF,fF] rfl rfl (any_of HT_.out (by kernel_rfl)) (fun _ _ _ h => h) (Or.inl ⟨by rfl, ?_⟩) ?_ ?_
         rotate_left
         ·intro w'
          go_simp
          with_reducible rfl
         rotate_left
         ·exact pa
         refine take_ (i := 8) (N := some 21) (v := ?_) (a' := ?_) #[tT,tT,tT,tT,tT,tT,tT,tT,tT,tT,tT,tT,fF,tT,tT,tT,tT,tT,tT,fF,fF,fF,fF,fF,fF,fF] rfl rfl (take_ofW HT_.out HW_.out (by kernel_rfl)) (fun _ _ _ h => h) (Or.inl ⟨by rfl, ?_⟩) hHeld ?_ ?_
         rotate_left
         ·rintro w' ⟨s0, s1, s2, s3, s4, s5⟩
          go_simp
          with_reducible rfl
         rotate_left
         ·exact pa
         refine take_ (i := 12) (N := some 25) (v := ?_) (a' := ?_) #[tT,tT,tT,tT,tT,tT,tT,tT,tT,tT,tT,tT,tT,tT,tT,tT,tT,tT,tT,fF,fF,fF,fF,fF,fF,fF] rfl rfl (take_ofW HT_.out HW_.out (by kernel_rfl)) (fun _ _ _ h => h) (Or.inl ⟨by rfl, ?_⟩) hHeld ?_ ?_
         rotate_left
         ·rintro w' ⟨s0, s1, s2, s3, s4, s5⟩
          go_simp
          with_reducible rfl
         rotate_left
         ·exact pa
         refine take_ (i := 19) (N := some 32) (v := ?_) (a' := ?_) #[tT,tT,tT,tT,tT,tT,tT,tT,tT,tT,tT,tT,tT,tT,tT,tT,tT,tT,tT,tT,fF,fF,fF,fF,fF,fF] rfl rfl (take_ofW HT_.out HW_.out (by kernel_rfl)) (fun _ _ _ h => h) (Or.inl ⟨by rfl, ?_⟩) hHeld ?_ ?_
         rotate_left
         ·rintro w' ⟨s0, s1, s2, s3, s4, s5⟩
          go_simp
          with_reducible rfl
         rotate_left
         ·exact pa
         refine join_ (σ := Nat × Nat × Nat) 3 #[tT,tT,tT,tT,tT,tT,tT,tT,tT,tT,tT,tT,tT,tT,tT,tT,tT,tT,tT,tT,tT,tT,tT,fF,fF,fF] (fun s_ => [(6, .pointer (some ⟨s_.1, 0, none⟩)), (7, .pointer (some ⟨s_.2.1, 0, none⟩)), (8, .pointer (some ⟨s_.2.2, 0, none⟩))]) (fun s_ w' => (w'.cell? (ad253.add (((ji4)).toNat * 2)) = some (.int .i64 ((rd_T30 l0 (ji4)).f0)) ∧ w'.cell? ⟨(ad253.add (((ji4)).toNat * 2)).block, (ad253.add (((ji4)).toNat * 2)).off + 1, none⟩ = some (.int .i64 ((rd_T30 l0 (ji4)).f1)) ∧ w'.cell? (ad253.add ((a1).toNat * 2)) = some (.int .i64 ((rd_T30 l0 a1).f0)) ∧ w'.cell? ⟨(ad253.add ((a1).toNat * 2)).block, (ad253.add ((a1).toNat * 2)).off + 1, none⟩ = some (.int .i64 ((rd_T30 l0 a1).f1)) ∧ w'.cell? (ad253.add (((ji9)).toNat * 2)) = some (.int .i64 ((rd_T30 l0 (ji9)).f0)) ∧ w'.cell? ⟨(ad253.add (((ji9)).toNat * 2)).block, (ad253.add (((ji9)).toNat * 2)).off + 1, none⟩ = some (.int .i64 ((rd_T30 l0 (ji9)).f1))) ∧ (w'.heap[s_.1]? = some (.cells #[.int .i64 0, .int .i64 0] 30 (0, 0))) ∧ (w'.heap[s_.2.1]? = some (.cells #[.int .i64 0, .int .i64 0] 30 (0, 0))) ∧ (w'.heap[s_.2.2]? = some (.cells #[.int .i64 0, .int .i64 0] 30 (0, 0))) ∧ (w.heap.size ≤ s_.1) ∧ (w.heap.size ≤ s_.1) ∧ (s_.2.1 ≠ s_.1) ∧ (s_.1 ≠ s_.2.1) ∧ (s_.2.2 ≠ s_.1) ∧ (s_.1 ≠ s_.2.2) ∧ (w.heap.size ≤ s_.2.1) ∧ (w.heap.size ≤ s_.2.1) ∧ (s_.2.2 ≠ s_.2.1) ∧ (s_.2.1 ≠ s_.2.2) ∧ (w.heap.size ≤ s_.2.2) ∧ (w.heap.size ≤ s_.2.2) ∧ (Below w.heap.size w w')) ?_ ?_
         rotate_left
         ·intro hJ20_21_22
          refine join_ (σ := Nat × Nat) 4 #[tT,tT,tT,tT,tT,tT,tT,tT,tT,tT,tT,tT,tT,tT,tT,tT,tT,tT,tT,tT,tT,tT,fF,fF,fF,fF] (fun s_ => [(6, .pointer (some ⟨s_.1, 0, none⟩)), (7, .pointer (some ⟨s_.2, 0, none⟩))]) (fun s_ w' => (w'.cell? (ad253.add (((ji4)).toNat * 2)) = some (.int .i64 ((rd_T30 l0 (ji4)).f0)) ∧ w'.cell? ⟨(ad253.add (((ji4)).toNat * 2)).block, (ad253.add (((ji4)).toNat * 2)).off + 1, none⟩ = some (.int .i64 ((rd_T30 l0 (ji4)).f1)) ∧ w'.cell? (ad253.add ((a1).toNat * 2)) = some (.int .i64 ((rd_T30 l0 a1).f0)) ∧ w'.cell? ⟨(ad253.add ((a1).toNat * 2)).block, (ad253.add ((a1).toNat * 2)).off + 1, none⟩ = some (.int .i64 ((rd_T30 l0 a1).f1)) ∧ w'.cell? (ad253.add (((ji9)).toNat * 2)) = some (.int .i64 ((rd_T30 l0 (ji9)).f0)) ∧ w'.cell? ⟨(ad253.add (((ji9)).toNat * 2)).block, (ad253.add (((ji9)).toNat * 2)).off + 1, none⟩ = some (.int .i64 ((rd_T30 l0 (ji9)).f1))) ∧ (w'.heap[s_.1]? = some (.cells #[.int .i64 0, .int .i64 0] 30 (0, 0))) ∧ (w'.heap[s_.2]? = some (.cells #[.int .i64 0, .int .i64 0] 30 (0, 0))) ∧ (w.heap.size ≤ s_.1) ∧ (w.heap.size ≤ s_.1) ∧ (s_.2 ≠ s_.1) ∧ (s_.1 ≠ s_.2) ∧ (w.heap.size ≤ s_.2) ∧ (w.heap.size ≤ s_.2) ∧ (Below w.heap.size w w')) ?_ ?_
          rotate_left
          ·intro hJ20_21
           refine join_ (σ := Nat × Nat) 4 #[tT,tT,tT,tT,tT,tT,tT,tT,tT,tT,tT,tT,tT,tT,tT,tT,tT,tT,tT,tT,tT,fF,tT,fF,fF,fF] (fun s_ => [(6, .pointer (some ⟨s_.1, 0, none⟩)), (8, .pointer (some ⟨s_.2, 0, none⟩))]) (fun s_ w' => (w'.cell? (ad253.add (((ji4)).toNat * 2)) = some (.int .i64 ((rd_T30 l0 (ji4)).f0)) ∧ w'.cell? ⟨(ad253.add (((ji4)).toNat * 2)).block, (ad253.add (((ji4)).toNat * 2)).off + 1, none⟩ = some (.int .i64 ((rd_T30 l0 (ji4)).f1)) ∧ w'.cell? (ad253.add ((a1).toNat * 2)) = some (.int .i64 ((rd_T30 l0 a1).f0)) ∧ w'.cell? ⟨(ad253.add ((a1).toNat * 2)).block, (ad253.add ((a1).toNat * 2)).off + 1, none⟩ = some (.int .i64 ((rd_T30 l0 a1).f1)) ∧ w'.cell? (ad253.add (((ji9)).toNat * 2)) = some (.int .i64 ((rd_T30 l0 (ji9)).f0)) ∧ w'.cell? ⟨(ad253.add (((ji9)).toNat * 2)).block, (ad253.add (((ji9)).toNat * 2)).off + 1, none⟩ = some (.int .i64 ((rd_T30 l0 (ji9)).f1))) ∧ (w'.heap[s_.1]? = some (.cells #[.int .i64 0, .int .i64 0] 30 (0, 0))) ∧ (w'.heap[s_.2]? = some (.cells #[.int .i64 0, .int .i64 0] 30 (0, 0))) ∧ (w.heap.size ≤ s_.1) ∧ (w.heap.size ≤ s_.1) ∧ (s_.2 ≠ s_.1) ∧ (s_.1 ≠ s_.2) ∧ (w.heap.size ≤ s_.2) ∧ (w.heap.size ≤ s_.2) ∧ (Below w.heap.size w w')) ?_ ?_
           rotate_left
           ·intro hJ20_22
            refine join_ (σ := Nat × Nat) 4 #[tT,tT,tT,tT,tT,tT,tT,tT,tT,tT,tT,tT,tT,tT,tT,tT,tT,tT,tT,tT,fF,tT,tT,fF,fF,fF] (fun s_ => [(7, .pointer (some ⟨s_.1, 0, none⟩)), (8, .pointer (some ⟨s_.2, 0, none⟩))]) (fun s_ w' => (w'.cell? (ad253.add (((ji4)).toNat * 2)) = some (.int .i64 ((rd_T30 l0 (ji4)).f0)) ∧ w'.cell? ⟨(ad253.add (((ji4)).toNat * 2)).block, (ad253.add (((ji4)).toNat * 2)).off + 1, none⟩ = some (.int .i64 ((rd_T30 l0 (ji4)).f1)) ∧ w'.cell? (ad253.add ((a1).toNat * 2)) = some (.int .i64 ((rd_T30 l0 a1).f0)) ∧ w'.cell? ⟨(ad253.add ((a1).toNat * 2)).block, (ad253.add ((a1).toNat * 2)).off + 1, none⟩ = some (.int .i64 ((rd_T30 l0 a1).f1)) ∧ w'.cell? (ad253.add (((ji9)).toNat * 2)) = some (.int .i64 ((rd_T30 l0 (ji9)).f0)) ∧ w'.cell? ⟨(ad253.add (((ji9)).toNat * 2)).block, (ad253.add (((ji9)).toNat * 2)).off + 1, none⟩ = some (.int .i64 ((rd_T30 l0 (ji9)).f1))) ∧ (w'.heap[s_.1]? = some (.cells #[.int .i64 0, .int .i64 0] 30 (0, 0))) ∧ (w'.heap[s_.2]? = some (.cells #[.int .i64 0, .int .i64 0] 30 (0, 0))) ∧ (w.heap.size ≤ s_.1) ∧ (w.heap.size ≤ s_.1) ∧ (s_.2 ≠ s_.1) ∧ (s_.1 ≠ s_.2) ∧ (w.heap.size ≤ s_.2) ∧ (w.heap.size ≤ s_.2) ∧ (Below w.heap.size w w')) ?_ ?_
            rotate_left
            ·intro hJ21_22
             refine join_ (σ := Nat) 5 #[tT,tT,tT,tT,tT,tT,tT,tT,tT,tT,tT,tT,tT,tT,tT,tT,tT,tT,tT,tT,tT,fF,fF,fF,fF,fF] (fun s_ => [(6, .pointer (some ⟨s_, 0, none⟩))]) (fun s_ w' => (w'.cell? (ad253.add (((ji4)).toNat * 2)) = some (.int .i64 ((rd_T30 l0 (ji4)).f0)) ∧ w'.cell? ⟨(ad253.add (((ji4)).toNat * 2)).block, (ad253.add (((ji4)).toNat * 2)).off + 1, none⟩ = some (.int .i64 ((rd_T30 l0 (ji4)).f1)) ∧ w'.cell? (ad253.add ((a1).toNat * 2)) = some (.int .i64 ((rd_T30 l0 a1).f0)) ∧ w'.cell? ⟨(ad253.add ((a1).toNat * 2)).block, (ad253.add ((a1).toNat * 2)).off + 1, none⟩ = some (.int .i64 ((rd_T30 l0 a1).f1)) ∧ w'.cell? (ad253.add (((ji9)).toNat * 2)) = some (.int .i64 ((rd_T30 l0 (ji9)).f0)) ∧ w'.cell? ⟨(ad253.add (((ji9)).toNat * 2)).block, (ad253.add (((ji9)).toNat * 2)).off + 1, none⟩ = some (.int .i64 ((rd_T30 l0 (ji9)).f1))) ∧ (w'.heap[s_]? = some (.cells #[.int .i64 0, .int .i64 0] 30 (0, 0))) ∧ (w.heap.size ≤ s_) ∧ (w.heap.size ≤ s_) ∧ (Below w.heap.size w w')) ?_ ?_
             rotate_left
             ·intro hJ20
              refine join_ (σ := Nat) 5 #[tT,tT,tT,tT,tT,tT,tT,tT,tT,tT,tT,tT,tT,tT,tT,tT,tT,tT,tT,tT,fF,tT,fF,fF,fF,fF] (fun s_ => [(7, .pointer (some ⟨s_, 0, none⟩))]) (fun s_ w' => (w'.cell? (ad253.add (((ji4)).toNat * 2)) = some (.int .i64 ((rd_T30 l0 (ji4)).f0)) ∧ w'.cell? ⟨(ad253.add (((ji4)).toNat * 2)).block, (ad253.add (((ji4)).toNat * 2)).off + 1, none⟩ = some (.int .i64 ((rd_T30 l0 (ji4)).f1)) ∧ w'.cell? (ad253.add ((a1).toNat * 2)) = some (.int .i64 ((rd_T30 l0 a1).f0)) ∧ w'.cell? ⟨(ad253.add ((a1).toNat * 2)).block, (ad253.add ((a1).toNat * 2)).off + 1, none⟩ = some (.int .i64 ((rd_T30 l0 a1).f1)) ∧ w'.cell? (ad253.add (((ji9)).toNat * 2)) = some (.int .i64 ((rd_T30 l0 (ji9)).f0)) ∧ w'.cell? ⟨(ad253.add (((ji9)).toNat * 2)).block, (ad253.add (((ji9)).toNat * 2)).off + 1, none⟩ = some (.int .i64 ((rd_T30 l0 (ji9)).f1))) ∧ (w'.heap[s_]? = some (.cells #[.int .i64 0, .int .i64 0] 30 (0, 0))) ∧ (w.heap.size ≤ s_) ∧ (w.heap.size ≤ s_) ∧ (Below w.heap.size w w')) ?_ ?_
              rotate_left
              ·intro hJ21
               refine join_ (σ := Nat) 5 #[tT,tT,tT,tT,tT,tT,tT,tT,tT,tT,tT,tT,tT,tT,tT,tT,tT,tT,tT,tT,fF,fF,tT,fF,fF,fF] (fun s_ => [(8, .pointer (some ⟨s_, 0, none⟩))]) (fun s_ w' => (w'.cell? (ad253.add (((ji4)).toNat * 2)) = some (.int .i64 ((rd_T30 l0 (ji4)).f0)) ∧ w'.cell? ⟨(ad253.add (((ji4)).toNat * 2)).block, (ad253.add (((ji4)).toNat * 2)).off + 1, none⟩ = some (.int .i64 ((rd_T30 l0 (ji4)).f1)) ∧ w'.cell? (ad253.add ((a1).toNat * 2)) = some (.int .i64 ((rd_T30 l0 a1).f0)) ∧ w'.cell? ⟨(ad253.add ((a1).toNat * 2)).block, (ad253.add ((a1).toNat * 2)).off + 1, none⟩ = some (.int .i64 ((rd_T30 l0 a1).f1)) ∧ w'.cell? (ad253.add (((ji9)).toNat * 2)) = some (.int .i64 ((rd_T30 l0 (ji9)).f0)) ∧ w'.cell? ⟨(ad253.add (((ji9)).toNat * 2)).block, (ad253.add (((ji9)).toNat * 2)).off + 1, none⟩ = some (.int .i64 ((rd_T30 l0 (ji9)).f1))) ∧ (w'.heap[s_]? = some (.cells #[.int .i64 0, .int .i64 0] 30 (0, 0))) ∧ (w.heap.size ≤ s_) ∧ (w.heap.size ≤ s_) ∧ (Below w.heap.size w w')) ?_ ?_
               rotate_left
               ·intro hJ22
                refine three_ (i := 20) (j := 21) (k := 22) (Ni := some 6) (Nj := some 7) (Nk := some 8) #[tT,tT,tT,tT,tT,tT,tT,tT,tT,tT,tT,tT,tT,tT,tT,tT,tT,tT,tT,tT,tT,fF,fF,fF,fF,fF] #[tT,tT,tT,tT,tT,tT,tT,tT,tT,tT,tT,tT,tT,tT,tT,tT,tT,tT,tT,tT,fF,tT,fF,fF,fF,fF] #[tT,tT,tT,tT,tT,tT,tT,tT,tT,tT,tT,tT,tT,tT,tT,tT,tT,tT,tT,tT,fF,fF,tT,fF,fF,fF] rfl rfl rfl rfl rfl rfl (three_of HT_.out (by kernel_rfl)) (by decide) (by decide) (by decide) (fun K hK => ?_) (fun K hK => ?_) (fun K hK => ?_)
                ·skip
                 refine box_step ?hg (N := 6) ?hd (cs := #[.int .i64 0, .int .i64 0]) (t := 30) ?hr ?_; (case hd => rfl); (case hg => rfl); (case hr => first | (go_simp; done) | (go_simp; rfl))
                 intro gb256 hg w81 hbox hb
                 have n0_ := sb hb
                 have n1_ := Aside0.mk (hbox)
                 have n2_ := zb hg
                 have n3_ := zb hg
                 clear HB
                 have HB := n0_
                 have BK256 := n1_
                 have GW256 := n2_
                 have GE256 := n3_
                 clear n0_ n1_ n2_ n3_
                 clear hb hbox hg
                 refine hK.out _ _ ⟨((HB.out.cell (bL w _ hw253_0)).trans hw253_0), ((HB.out.cell (bL w _ hw253_1)).trans hw253_1), ((HB.out.cell (bL w _ hw254_0)).trans hw254_0), ((HB.out.cell (bL w _ hw254_1)).trans hw254_1), ((HB.out.cell (bL w _ hw255_0)).trans hw255_0), ((HB.out.cell (bL w _ hw255_1)).trans hw255_1)⟩ (fun hHeld => ?_)
                 clear hK K
                 refine norm_ (a' := ?_) ?_ ?_
                 rotate_left
                 ·show Act.put _ (some 6) _ = _
                  simp only [Act.put, List.setIfInBounds_toArray, List.set_cons_zero, List.set_cons_succ, i64_w, i32_w]
                  rfl
                 exact norm_ (by first | (simp only [putAll, Act.put, List.setIfInBounds_toArray, List.set_cons_zero, List.set_cons_succ]; done) | (simp only [putAll, Act.put, List.setIfInBounds_toArray, List.set_cons_zero, List.set_cons_succ]; rfl)) (hJ20 (gb256) _ ⟨hHeld, (bk BK256), GW256.out, GE256.out, ib⟩)
                ·skip
                 refine box_step ?hg (N := 7) ?hd (cs := #[.int .i64 0, .int .i64 0]) (t := 30) ?hr ?_; (case hd => rfl); (case hg => rfl); (case hr => first | (go_simp; done) | (go_simp; rfl))
                 intro gb257 hg w81 hbox hb
                 have n0_ := sb hb
                 have n1_ := Aside0.mk (hbox)
                 have n2_ := zb hg
                 have n3_ := zb hg
                 clear HB
                 have HB := n0_
                 have BK257 := n1_
                 have GW257 := n2_
                 have GE257 := n3_
                 clear n0_ n1_ n2_ n3_
                 clear hb hbox hg
                 refine hK.out _ _ ⟨((HB.out.cell (bL w _ hw253_0)).trans hw253_0), ((HB.out.cell (bL w _ hw253_1)).trans hw253_1), ((HB.out.cell (bL w _ hw254_0)).trans hw254_0), ((HB.out.cell (bL w _ hw254_1)).trans hw254_1), ((HB.out.cell (bL w _ hw255_0)).trans hw255_0), ((HB.out.cell (bL w _ hw255_1)).trans hw255_1)⟩ (fun hHeld => ?_)
                 clear hK K
                 refine norm_ (a' := ?_) ?_ ?_
                 rotate_left
                 ·show Act.put _ (some 7) _ = _
                  simp only [Act.put, List.setIfInBounds_toArray, List.set_cons_zero, List.set_cons_succ, i64_w, i32_w]
                  rfl
                 exact norm_ (by first | (simp only [putAll, Act.put, List.setIfInBounds_toArray, List.set_cons_zero, List.set_cons_succ]; done) | (simp only [putAll, Act.put, List.setIfInBounds_toArray, List.set_cons_zero, List.set_cons_succ]; rfl)) (hJ21 (gb257) _ ⟨hHeld, (bk BK257), GW257.out, GE257.out, ib⟩)
                ·skip
                 refine box_step ?hg (N := 8) ?hd (cs := #[.int .i64 0, .int .i64 0]) (t := 30) ?hr ?_; (case hd => rfl); (case hg => rfl); (case hr => first | (go_simp; done) | (go_simp; rfl))
                 intro gb258 hg w81 hbox hb
                 have n0_ := sb hb
                 have n1_ := Aside0.mk (hbox)
                 have n2_ := zb hg
                 have n3_ := zb hg
                 clear HB
                 have HB := n0_
                 have BK258 := n1_
                 have GW258 := n2_
                 have GE258 := n3_
                 clear n0_ n1_ n2_ n3_
                 clear hb hbox hg
                 refine hK.out _ _ ⟨((HB.out.cell (bL w _ hw253_0)).trans hw253_0), ((HB.out.cell (bL w _ hw253_1)).trans hw253_1), ((HB.out.cell (bL w _ hw254_0)).trans hw254_0), ((HB.out.cell (bL w _ hw254_1)).trans hw254_1), ((HB.out.cell (bL w _ hw255_0)).trans hw255_0), ((HB.out.cell (bL w _ hw255_1)).trans hw255_1)⟩ (fun hHeld => ?_)
                 clear hK K
                 refine norm_ (a' := ?_) ?_ ?_
                 rotate_left
                 ·show Act.put _ (some 8) _ = _
                  simp only [Act.put, List.setIfInBounds_toArray, List.set_cons_zero, List.set_cons_succ, i64_w, i32_w]
                  rfl
                 exact norm_ (by first | (simp only [putAll, Act.put, List.setIfInBounds_toArray, List.set_cons_zero, List.set_cons_succ]; done) | (simp only [putAll, Act.put, List.setIfInBounds_toArray, List.set_cons_zero, List.set_cons_succ]; rfl)) (hJ22 (gb258) _ ⟨hHeld, (bk BK258), GW258.out, GE258.out, ib⟩)
               ·skip
                rintro gb258 w82 ⟨hS_, h0_, h1_, h2_, h3_⟩
                have n0_ : Aside0 (w82.heap[gb258]? = some (.cells #[.int .i64 0, .int .i64 0] 30 (0, 0))) := ⟨h0_⟩
                have n1_ : Aside0 (w.heap.size ≤ gb258) := ⟨h1_⟩
                have n2_ : Aside0 (w.heap.size ≤ gb258) := ⟨h2_⟩
                have n3_ : Aside0 (Below w.heap.size w w82) := ⟨h3_⟩
                clear HB
                clear h0_ h1_ h2_ h3_
                have BK258 := n0_
                have GW258 := n1_
                have GE258 := n2_
                have HB := n3_
                clear n0_ n1_ n2_ n3_
                have hHeld : w82.cell? (ad253.add (((ji4)).toNat * 2)) = some (.int .i64 ((rd_T30 l0 (ji4)).f0)) ∧ w82.cell? ⟨(ad253.add (((ji4)).toNat * 2)).block, (ad253.add (((ji4)).toNat * 2)).off + 1, none⟩ = some (.int .i64 ((rd_T30 l0 (ji4)).f1)) ∧ w82.cell? (ad253.add ((a1).toNat * 2)) = some (.int .i64 ((rd_T30 l0 a1).f0)) ∧ w82.cell? ⟨(ad253.add ((a1).toNat * 2)).block, (ad253.add ((a1).toNat * 2)).off + 1, none⟩ = some (.int .i64 ((rd_T30 l0 a1).f1)) ∧ w82.cell? (ad253.add (((ji9)).toNat * 2)) = some (.int .i64 ((rd_T30 l0 (ji9)).f0)) ∧ w82.cell? ⟨(ad253.add (((ji9)).toNat * 2)).block, (ad253.add (((ji9)).toNat * 2)).off + 1, none⟩ = some (.int .i64 ((rd_T30 l0 (ji9)).f1)) := hS_
                refine norm_ (a' := ?_) ?_ ?_
                rotate_left
                ·simp only [putAll, Act.put, List.setIfInBounds_toArray, List.set_cons_zero, List.set_cons_succ]
                 rfl
                refine two_ (i := 20) (j := 21) (Ni := some 6) (Nj := some 7) #[tT,tT,tT,tT,tT,tT,tT,tT,tT,tT,tT,tT,tT,tT,tT,tT,tT,tT,tT,tT,tT,fF,tT,fF,fF,fF] #[tT,tT,tT,tT,tT,tT,tT,tT,tT,tT,tT,tT,tT,tT,tT,tT,tT,tT,tT,tT,fF,tT,tT,fF,fF,fF] rfl rfl rfl rfl (two_of HT_.out (by kernel_rfl)) (by decide) (by decide) (fun K hK => ?_) (fun K hK => ?_)
                ·skip
                 refine box_step ?hg (N := 6) ?hd (cs := #[.int .i64 0, .int .i64 0]) (t := 30) ?hr ?_; (case hd => rfl); (case hg => rfl); (case hr => first | (go_simp; done) | (go_simp; rfl))
                 intro gb256 hg w83 hbox hb
                 have n0_ := kb BK258 hb
                 have n1_ := sb hb
                 have n2_ := Aside0.mk (hbox)
                 have n3_ := zb hg
                 have n4_ := zb hg
                 have n5_ := nl BK258 hg
                 have n6_ := ng BK258 hg
                 clear BK258
                 clear HB
                 have BK258 := n0_
                 have HB := n1_
                 have BK256 := n2_
                 have GW256 := n3_
                 have GE256 := n4_
                 have NB258_256 := n5_
                 have NB256_258 := n6_
                 clear n0_ n1_ n2_ n3_ n4_ n5_ n6_
                 clear hb hbox hg
                 refine hK.out _ _ ⟨((HB.out.cell (bL w _ hw253_0)).trans hw253_0), ((HB.out.cell (bL w _ hw253_1)).trans hw253_1), ((HB.out.cell (bL w _ hw254_0)).trans hw254_0), ((HB.out.cell (bL w _ hw254_1)).trans hw254_1), ((HB.out.cell (bL w _ hw255_0)).trans hw255_0), ((HB.out.cell (bL w _ hw255_1)).trans hw255_1)⟩ (fun hHeld => ?_)
                 clear hK K
                 refine norm_ (a' := ?_) ?_ ?_
                 rotate_left
                 ·show Act.put _ (some 6) _ = _
                  simp only [Act.put, List.setIfInBounds_toArray, List.set_cons_zero, List.set_cons_succ, i64_w, i32_w]
                  rfl
                 exact norm_ (by first | (simp only [putAll, Act.put, List.setIfInBounds_toArray, List.set_cons_zero, List.set_cons_succ]; done) | (simp only [putAll, Act.put, List.setIfInBounds_toArray, List.set_cons_zero, List.set_cons_succ]; rfl)) (hJ20_22 (gb256, gb258) _ ⟨hHeld, (bk BK256), (bk BK258), GW256.out, GE256.out, NB258_256.out, NB256_258.out, GW258.out, GE258.out, ib⟩)
                ·skip
                 refine box_step ?hg (N := 7) ?hd (cs := #[.int .i64 0, .int .i64 0]) (t := 30) ?hr ?_; (case hd => rfl); (case hg => rfl); (case hr => first | (go_simp; done) | (go_simp; rfl))
                 intro gb257 hg w83 hbox hb
                 have n0_ := kb BK258 hb
                 have n1_ := sb hb
                 have n2_ := Aside0.mk (hbox)
                 have n3_ := zb hg
                 have n4_ := zb hg
                 have n5_ := nl BK258 hg
                 have n6_ := ng BK258 hg
                 clear BK258
                 clear HB
                 have BK258 := n0_
                 have HB := n1_
                 have BK257 := n2_
                 have GW257 := n3_
                 have GE257 := n4_
                 have NB258_257 := n5_
                 have NB257_258 := n6_
                 clear n0_ n1_ n2_ n3_ n4_ n5_ n6_
                 clear hb hbox hg
                 refine hK.out _ _ ⟨((HB.out.cell (bL w _ hw253_0)).trans hw253_0), ((HB.out.cell (bL w _ hw253_1)).trans hw253_1), ((HB.out.cell (bL w _ hw254_0)).trans hw254_0), ((HB.out.cell (bL w _ hw254_1)).trans hw254_1), ((HB.out.cell (bL w _ hw255_0)).trans hw255_0), ((HB.out.cell (bL w _ hw255_1)).trans hw255_1)⟩ (fun hHeld => ?_)
                 clear hK K
                 refine norm_ (a' := ?_) ?_ ?_
                 rotate_left
                 ·show Act.put _ (some 7) _ = _
                  simp only [Act.put, List.setIfInBounds_toArray, List.set_cons_zero, List.set_cons_succ, i64_w, i32_w]
                  rfl
                 exact norm_ (by first | (simp only [putAll, Act.put, List.setIfInBounds_toArray, List.set_cons_zero, List.set_cons_succ]; done) | (simp only [putAll, Act.put, List.setIfInBounds_toArray, List.set_cons_zero, List.set_cons_succ]; rfl)) (hJ21_22 (gb257, gb258) _ ⟨hHeld, (bk BK257), (bk BK258), GW257.out, GE257.out, NB258_257.out, NB257_258.out, GW258.out, GE258.out, ib⟩)
              ·skip
               rintro gb257 w82 ⟨hS_, h0_, h1_, h2_, h3_⟩
               have n0_ : Aside0 (w82.heap[gb257]? = some (.cells #[.int .i64 0, .int .i64 0] 30 (0, 0))) := ⟨h0_⟩
               have n1_ : Aside0 (w.heap.size ≤ gb257) := ⟨h1_⟩
               have n2_ : Aside0 (w.heap.size ≤ gb257) := ⟨h2_⟩
               have n3_ : Aside0 (Below w.heap.size w w82) := ⟨h3_⟩
               clear HB
               clear h0_ h1_ h2_ h3_
               have BK257 := n0_
               have GW257 := n1_
               have GE257 := n2_
               have HB := n3_
               clear n0_ n1_ n2_ n3_
               have hHeld : w82.cell? (ad253.add (((ji4)).toNat * 2)) = some (.int .i64 ((rd_T30 l0 (ji4)).f0)) ∧ w82.cell? ⟨(ad253.add (((ji4)).toNat * 2)).block, (ad253.add (((ji4)).toNat * 2)).off + 1, none⟩ = some (.int .i64 ((rd_T30 l0 (ji4)).f1)) ∧ w82.cell? (ad253.add ((a1).toNat * 2)) = some (.int .i64 ((rd_T30 l0 a1).f0)) ∧ w82.cell? ⟨(ad253.add ((a1).toNat * 2)).block, (ad253.add ((a1).toNat * 2)).off + 1, none⟩ = some (.int .i64 ((rd_T30 l0 a1).f1)) ∧ w82.cell? (ad253.add (((ji9)).toNat * 2)) = some (.int .i64 ((rd_T30 l0 (ji9)).f0)) ∧ w82.cell? ⟨(ad253.add (((ji9)).toNat * 2)).block, (ad253.add (((ji9)).toNat * 2)).off + 1, none⟩ = some (.int .i64 ((rd_T30 l0 (ji9)).f1)) := hS_
               refine norm_ (a' := ?_) ?_ ?_
               rotate_left
               ·simp only [putAll, Act.put, List.setIfInBounds_toArray, List.set_cons_zero, List.set_cons_succ]
                rfl
               refine two_ (i := 20) (j := 22) (Ni := some 6) (Nj := some 8) #[tT,tT,tT,tT,tT,tT,tT,tT,tT,tT,tT,tT,tT,tT,tT,tT,tT,tT,tT,tT,tT,tT,fF,fF,fF,fF] #[tT,tT,tT,tT,tT,tT,tT,tT,tT,tT,tT,tT,tT,tT,tT,tT,tT,tT,tT,tT,fF,tT,tT,fF,fF,fF] rfl rfl rfl rfl (two_of HT_.out (by kernel_rfl)) (by decide) (by decide) (fun K hK => ?_) (fun K hK => ?_)
               ·skip
                refine box_step ?hg (N := 6) ?hd (cs := #[.int .i64 0, .int .i64 0]) (t := 30) ?hr ?_; (case hd => rfl); (case hg => rfl); (case hr => first | (go_simp; done) | (go_simp; rfl))
                intro gb256 hg w83 hbox hb
                have n0_ := kb BK257 hb
                have n1_ := sb hb
                have n2_ := Aside0.mk (hbox)
                have n3_ := zb hg
                have n4_ := zb hg
                have n5_ := nl BK257 hg
                have n6_ := ng BK257 hg
                clear BK257
                clear HB
                have BK257 := n0_
                have HB := n1_
                have BK256 := n2_
                have GW256 := n3_
                have GE256 := n4_
                have NB257_256 := n5_
                have NB256_257 := n6_
                clear n0_ n1_ n2_ n3_ n4_ n5_ n6_
                clear hb hbox hg
                refine hK.out _ _ ⟨((HB.out.cell (bL w _ hw253_0)).trans hw253_0), ((HB.out.cell (bL w _ hw253_1)).trans hw253_1), ((HB.out.cell (bL w _ hw254_0)).trans hw254_0), ((HB.out.cell (bL w _ hw254_1)).trans hw254_1), ((HB.out.cell (bL w _ hw255_0)).trans hw255_0), ((HB.out.cell (bL w _ hw255_1)).trans hw255_1)⟩ (fun hHeld => ?_)
                clear hK K
                refine norm_ (a' := ?_) ?_ ?_
                rotate_left
                ·show Act.put _ (some 6) _ = _
                 simp only [Act.put, List.setIfInBounds_toArray, List.set_cons_zero, List.set_cons_succ, i64_w, i32_w]
                 rfl
                exact norm_ (by first | (simp only [putAll, Act.put, List.setIfInBounds_toArray, List.set_cons_zero, List.set_cons_succ]; done) | (simp only [putAll, Act.put, List.setIfInBounds_toArray, List.set_cons_zero, List.set_cons_succ]; rfl)) (hJ20_21 (gb256, gb257) _ ⟨hHeld, (bk BK256), (bk BK257), GW256.out, GE256.out, NB257_256.out, NB256_257.out, GW257.out, GE257.out, ib⟩)
               ·skip
                refine box_step ?hg (N := 8) ?hd (cs := #[.int .i64 0, .int .i64 0]) (t := 30) ?hr ?_; (case hd => rfl); (case hg => rfl); (case hr => first | (go_simp; done) | (go_simp; rfl))
                intro gb258 hg w83 hbox hb
                have n0_ := kb BK257 hb
                have n1_ := sb hb
                have n2_ := Aside0.mk (hbox)
                have n3_ := zb hg
                have n4_ := zb hg
                have n5_ := nl BK257 hg
                have n6_ := ng BK257 hg
                clear BK257
                clear HB
                have BK257 := n0_
                have HB := n1_
                have BK258 := n2_
                have GW258 := n3_
                have GE258 := n4_
                have NB257_258 := n5_
                have NB258_257 := n6_
                clear n0_ n1_ n2_ n3_ n4_ n5_ n6_
                clear hb hbox hg
                refine hK.out _ _ ⟨((HB.out.cell (bL w _ hw253_0)).trans hw253_0), ((HB.out.cell (bL w _ hw253_1)).trans hw253_1), ((HB.out.cell (bL w _ hw254_0)).trans hw254_0), ((HB.out.cell (bL w _ hw254_1)).trans hw254_1), ((HB.out.cell (bL w _ hw255_0)).trans hw255_0), ((HB.out.cell (bL w _ hw255_1)).trans hw255_1)⟩ (fun hHeld => ?_)
                clear hK K
                refine norm_ (a' := ?_) ?_ ?_
                rotate_left
                ·show Act.put _ (some 8) _ = _
                 simp only [Act.put, List.setIfInBounds_toArray, List.set_cons_zero, List.set_cons_succ, i64_w, i32_w]
                 rfl
                exact norm_ (by first | (simp only [putAll, Act.put, List.setIfInBounds_toArray, List.set_cons_zero, List.set_cons_succ]; done) | (simp only [putAll, Act.put, List.setIfInBounds_toArray, List.set_cons_zero, List.set_cons_succ]; rfl)) (hJ21_22 (gb257, gb258) _ ⟨hHeld, (bk BK257), (bk BK258), GW257.out, GE257.out, NB258_257.out, NB257_258.out, GW258.out, GE258.out, ib⟩)
             ·skip
              rintro gb256 w82 ⟨hS_, h0_, h1_, h2_, h3_⟩
              have n0_ : Aside0 (w82.heap[gb256]? = some (.cells #[.int .i64 0, .int .i64 0] 30 (0, 0))) := ⟨h0_⟩
              have n1_ : Aside0 (w.heap.size ≤ gb256) := ⟨h1_⟩
              have n2_ : Aside0 (w.heap.size ≤ gb256) := ⟨h2_⟩
              have n3_ : Aside0 (Below w.heap.size w w82) := ⟨h3_⟩
              clear HB
              clear h0_ h1_ h2_ h3_
              have BK256 := n0_
              have GW256 := n1_
              have GE256 := n2_
              have HB := n3_
              clear n0_ n1_ n2_ n3_
              have hHeld : w82.cell? (ad253.add (((ji4)).toNat * 2)) = some (.int .i64 ((rd_T30 l0 (ji4)).f0)) ∧ w82.cell? ⟨(ad253.add (((ji4)).toNat * 2)).block, (ad253.add (((ji4)).toNat * 2)).off + 1, none⟩ = some (.int .i64 ((rd_T30 l0 (ji4)).f1)) ∧ w82.cell? (ad253.add ((a1).toNat * 2)) = some (.int .i64 ((rd_T30 l0 a1).f0)) ∧ w82.cell? ⟨(ad253.add ((a1).toNat * 2)).block, (ad253.add ((a1).toNat * 2)).off + 1, none⟩ = some (.int .i64 ((rd_T30 l0 a1).f1)) ∧ w82.cell? (ad253.add (((ji9)).toNat * 2)) = some (.int .i64 ((rd_T30 l0 (ji9)).f0)) ∧ w82.cell? ⟨(ad253.add (((ji9)).toNat * 2)).block, (ad253.add (((ji9)).toNat * 2)).off + 1, none⟩ = some (.int .i64 ((rd_T30 l0 (ji9)).f1)) := hS_
              refine norm_ (a' := ?_) ?_ ?_
              rotate_left
              ·simp only [putAll, Act.put, List.setIfInBounds_toArray, List.set_cons_zero, List.set_cons_succ]
               rfl
              refine two_ (i := 21) (j := 22) (Ni := some 7) (Nj := some 8) #[tT,tT,tT,tT,tT,tT,tT,tT,tT,tT,tT,tT,tT,tT,tT,tT,tT,tT,tT,tT,tT,tT,fF,fF,fF,fF] #[tT,tT,tT,tT,tT,tT,tT,tT,tT,tT,tT,tT,tT,tT,tT,tT,tT,tT,tT,tT,tT,fF,tT,fF,fF,fF] rfl rfl rfl rfl (two_of HT_.out (by kernel_rfl)) (by decide) (by decide) (fun K hK => ?_) (fun K hK => ?_)
              ·skip
               refine box_step ?hg (N := 7) ?hd (cs := #[.int .i64 0, .int .i64 0]) (t := 30) ?hr ?_; (case hd => rfl); (case hg => rfl); (case hr => first | (go_simp; done) | (go_simp; rfl))
               intro gb257 hg w83 hbox hb
               have n0_ := kb BK256 hb
               have n1_ := sb hb
               have n2_ := Aside0.mk (hbox)
               have n3_ := zb hg
               have n4_ := zb hg
               have n5_ := nl BK256 hg
               have n6_ := ng BK256 hg
               clear BK256
               clear HB
               have BK256 := n0_
               have HB := n1_
               have BK257 := n2_
               have GW257 := n3_
               have GE257 := n4_
               have NB256_257 := n5_
               have NB257_256 := n6_
               clear n0_ n1_ n2_ n3_ n4_ n5_ n6_
               clear hb hbox hg
               refine hK.out _ _ ⟨((HB.out.cell (bL w _ hw253_0)).trans hw253_0), ((HB.out.cell (bL w _ hw253_1)).trans hw253_1), ((HB.out.cell (bL w _ hw254_0)).trans hw254_0), ((HB.out.cell (bL w _ hw254_1)).trans hw254_1), ((HB.out.cell (bL w _ hw255_0)).trans hw255_0), ((HB.out.cell (bL w _ hw255_1)).trans hw255_1)⟩ (fun hHeld => ?_)
               clear hK K
               refine norm_ (a' := ?_) ?_ ?_
               rotate_left
               ·show Act.put _ (some 7) _ = _
                simp only [Act.put, List.setIfInBounds_toArray, List.set_cons_zero, List.set_cons_succ, i64_w, i32_w]
                rfl
               exact norm_ (by first | (simp only [putAll, Act.put, List.setIfInBounds_toArray, List.set_cons_zero, List.set_cons_succ]; done) | (simp only [putAll, Act.put, List.setIfInBounds_toArray, List.set_cons_zero, List.set_cons_succ]; rfl)) (hJ20_21 (gb256, gb257) _ ⟨hHeld, (bk BK256), (bk BK257), GW256.out, GE256.out, NB257_256.out, NB256_257.out, GW257.out, GE257.out, ib⟩)
              ·skip
               refine box_step ?hg (N := 8) ?hd (cs := #[.int .i64 0, .int .i64 0]) (t := 30) ?hr ?_; (case hd => rfl); (case hg => rfl); (case hr => first | (go_simp; done) | (go_simp; rfl))
               intro gb258 hg w83 hbox hb
               have n0_ := kb BK256 hb
               have n1_ := sb hb
               have n2_ := Aside0.mk (hbox)
               have n3_ := zb hg
               have n4_ := zb hg
               have n5_ := nl BK256 hg
               have n6_ := ng BK256 hg
               clear BK256
               clear HB
               have BK256 := n0_
               have HB := n1_
               have BK258 := n2_
               have GW258 := n3_
               have GE258 := n4_
               have NB256_258 := n5_
               have NB258_256 := n6_
               clear n0_ n1_ n2_ n3_ n4_ n5_ n6_
               clear hb hbox hg
               refine hK.out _ _ ⟨((HB.out.cell (bL w _ hw253_0)).trans hw253_0), ((HB.out.cell (bL w _ hw253_1)).trans hw253_1), ((HB.out.cell (bL w _ hw254_0)).trans hw254_0), ((HB.out.cell (bL w _ hw254_1)).trans hw254_1), ((HB.out.cell (bL w _ hw255_0)).trans hw255_0), ((HB.out.cell (bL w _ hw255_1)).trans hw255_1)⟩ (fun hHeld => ?_)
               clear hK K
               refine norm_ (a' := ?_) ?_ ?_
               rotate_left
               ·show Act.put _ (some 8) _ = _
                simp only [Act.put, List.setIfInBounds_toArray, List.set_cons_zero, List.set_cons_succ, i64_w, i32_w]
                rfl
               exact norm_ (by first | (simp only [putAll, Act.put, List.setIfInBounds_toArray, List.set_cons_zero, List.set_cons_succ]; done) | (simp only [putAll, Act.put, List.setIfInBounds_toArray, List.set_cons_zero, List.set_cons_succ]; rfl)) (hJ20_22 (gb256, gb258) _ ⟨hHeld, (bk BK256), (bk BK258), GW256.out, GE256.out, NB258_256.out, NB256_258.out, GW258.out, GE258.out, ib⟩)
            ·skip
             rintro ⟨gb257, gb258⟩ w83 ⟨hS_, h0_, h1_, h2_, h3_, h4_, h5_, h6_, h7_, h8_⟩
             have n0_ : Aside0 (w83.heap[gb257]? = some (.cells #[.int .i64 0, .int .i64 0] 30 (0, 0))) := ⟨h0_⟩
             have n1_ : Aside0 (w83.heap[gb258]? = some (.cells #[.int .i64 0, .int .i64 0] 30 (0, 0))) := ⟨h1_⟩
             have n2_ : Aside0 (w.heap.size ≤ gb257) := ⟨h2_⟩
             have n3_ : Aside0 (w.heap.size ≤ gb257) := ⟨h3_⟩
             have n4_ : Aside0 (gb258 ≠ gb257) := ⟨h4_⟩
             have n5_ : Aside0 (gb257 ≠ gb258) := ⟨h5_⟩
             have n6_ : Aside0 (w.heap.size ≤ gb258) := ⟨h6_⟩
             have n7_ : Aside0 (w.heap.size ≤ gb258) := ⟨h7_⟩
             have n8_ : Aside0 (Below w.heap.size w w83) := ⟨h8_⟩
             clear HB
             clear h0_ h1_ h2_ h3_ h4_ h5_ h6_ h7_ h8_
             have BK257 := n0_
             have BK258 := n1_
             have GW257 := n2_
             have GE257 := n3_
             have NB258_257 := n4_
             have NB257_258 := n5_
             have GW258 := n6_
             have GE258 := n7_
             have HB := n8_
             clear n0_ n1_ n2_ n3_ n4_ n5_ n6_ n7_ n8_
             have hHeld : w83.cell? (ad253.add (((ji4)).toNat * 2)) = some (.int .i64 ((rd_T30 l0 (ji4)).f0)) ∧ w83.cell? ⟨(ad253.add (((ji4)).toNat * 2)).block, (ad253.add (((ji4)).toNat * 2)).off + 1, none⟩ = some (.int .i64 ((rd_T30 l0 (ji4)).f1)) ∧ w83.cell? (ad253.add ((a1).toNat * 2)) = some (.int .i64 ((rd_T30 l0 a1).f0)) ∧ w83.cell? ⟨(ad253.add ((a1).toNat * 2)).block, (ad253.add ((a1).toNat * 2)).off + 1, none⟩ = some (.int .i64 ((rd_T30 l0 a1).f1)) ∧ w83.cell? (ad253.add (((ji9)).toNat * 2)) = some (.int .i64 ((rd_T30 l0 (ji9)).f0)) ∧ w83.cell? ⟨(ad253.add (((ji9)).toNat * 2)).block, (ad253.add (((ji9)).toNat * 2)).off + 1, none⟩ = some (.int .i64 ((rd_T30 l0 (ji9)).f1)) := hS_
             refine norm_ (a' := ?_) ?_ ?_
             rotate_left
             ·simp only [putAll, Act.put, List.setIfInBounds_toArray, List.set_cons_zero, List.set_cons_succ]
              rfl
             refine one_ (i := 20) (N := some 6) #[tT,tT,tT,tT,tT,tT,tT,tT,tT,tT,tT,tT,tT,tT,tT,tT,tT,tT,tT,tT,tT,tT,tT,fF,fF,fF] rfl rfl (one_of HT_.out (by kernel_rfl)) (by decide) (fun K hK => ?_)
             refine box_step ?hg (N := 6) ?hd (cs := #[.int .i64 0, .int .i64 0]) (t := 30) ?hr ?_; (case hd => rfl); (case hg => rfl); (case hr => first | (go_simp; done) | (go_simp; rfl))
             intro gb256 hg w84 hbox hb
             have n0_ := kb BK257 hb
             have n1_ := kb BK258 hb
             have n2_ := sb hb
             have n3_ := Aside0.mk (hbox)
             have n4_ := zb hg
             have n5_ := zb hg
             have n6_ := nl BK257 hg
             have n7_ := ng BK257 hg
             have n8_ := nl BK258 hg
             have n9_ := ng BK258 hg
             clear BK257
             clear BK258
             clear HB
             have BK257 := n0_
             have BK258 := n1_
             have HB := n2_
             have BK256 := n3_
             have GW256 := n4_
             have GE256 := n5_
             have NB257_256 := n6_
             have NB256_257 := n7_
             have NB258_256 := n8_
             have NB256_258 := n9_
             clear n0_ n1_ n2_ n3_ n4_ n5_ n6_ n7_ n8_ n9_
             clear hb hbox hg
             refine hK.out _ _ ⟨((HB.out.cell (bL w _ hw253_0)).trans hw253_0), ((HB.out.cell (bL w _ hw253_1)).trans hw253_1), ((HB.out.cell (bL w _ hw254_0)).trans hw254_0), ((HB.out.cell (bL w _ hw254_1)).trans hw254_1), ((HB.out.cell (bL w _ hw255_0)).trans hw255_0), ((HB.out.cell (bL w _ hw255_1)).trans hw255_1)⟩ (fun hHeld => ?_)
             clear hK K
             refine norm_ (a' := ?_) ?_ ?_
             rotate_left
             ·show Act.put _ (some 6) _ = _
              simp only [Act.put, List.setIfInBounds_toArray, List.set_cons_zero, List.set_cons_succ, i64_w, i32_w]
              rfl
             exact norm_ (by first | (simp only [putAll, Act.put, List.setIfInBounds_toArray, List.set_cons_zero, List.set_cons_succ]; done) | (simp only [putAll, Act.put, List.setIfInBounds_toArray, List.set_cons_zero, List.set_cons_succ]; rfl)) (hJ20_21_22 (gb256, gb257, gb258) _ ⟨hHeld, (bk BK256), (bk BK257), (bk BK258), GW256.out, GE256.out, NB257_256.out, NB256_257.out, NB258_256.out, NB256_258.out, GW257.out, GE257.out, NB258_257.out, NB257_258.out, GW258.out, GE258.out, ib⟩)
           ·skip
            rintro ⟨gb256, gb258⟩ w83 ⟨hS_, h0_, h1_, h2_, h3_, h4_, h5_, h6_, h7_, h8_⟩
            have n0_ : Aside0 (w83.heap[gb256]? = some (.cells #[.int .i64 0, .int .i64 0] 30 (0, 0))) := ⟨h0_⟩
            have n1_ : Aside0 (w83.heap[gb258]? = some (.cells #[.int .i64 0, .int .i64 0] 30 (0, 0))) := ⟨h1_⟩
            have n2_ : Aside0 (w.heap.size ≤ gb256) := ⟨h2_⟩
            have n3_ : Aside0 (w.heap.size ≤ gb256) := ⟨h3_⟩
            have n4_ : Aside0 (gb258 ≠ gb256) := ⟨h4_⟩
            have n5_ : Aside0 (gb256 ≠ gb258) := ⟨h5_⟩
            have n6_ : Aside0 (w.heap.size ≤ gb258) := ⟨h6_⟩
            have n7_ : Aside0 (w.heap.size ≤ gb258) := ⟨h7_⟩
            have n8_ : Aside0 (Below w.heap.size w w83) := ⟨h8_⟩
            clear HB
            clear h0_ h1_ h2_ h3_ h4_ h5_ h6_ h7_ h8_
            have BK256 := n0_
            have BK258 := n1_
            have GW256 := n2_
            have GE256 := n3_
            have NB258_256 := n4_
            have NB256_258 := n5_
            have GW258 := n6_
            have GE258 := n7_
            have HB := n8_
            clear n0_ n1_ n2_ n3_ n4_ n5_ n6_ n7_ n8_
            have hHeld : w83.cell? (ad253.add (((ji4)).toNat * 2)) = some (.int .i64 ((rd_T30 l0 (ji4)).f0)) ∧ w83.cell? ⟨(ad253.add (((ji4)).toNat * 2)).block, (ad253.add (((ji4)).toNat * 2)).off + 1, none⟩ = some (.int .i64 ((rd_T30 l0 (ji4)).f1)) ∧ w83.cell? (ad253.add ((a1).toNat * 2)) = some (.int .i64 ((rd_T30 l0 a1).f0)) ∧ w83.cell? ⟨(ad253.add ((a1).toNat * 2)).block, (ad253.add ((a1).toNat * 2)).off + 1, none⟩ = some (.int .i64 ((rd_T30 l0 a1).f1)) ∧ w83.cell? (ad253.add (((ji9)).toNat * 2)) = some (.int .i64 ((rd_T30 l0 (ji9)).f0)) ∧ w83.cell? ⟨(ad253.add (((ji9)).toNat * 2)).block, (ad253.add (((ji9)).toNat * 2)).off + 1, none⟩ = some (.int .i64 ((rd_T30 l0 (ji9)).f1)) := hS_
            refine norm_ (a' := ?_) ?_ ?_
            rotate_left
            ·simp only [putAll, Act.put, List.setIfInBounds_toArray, List.set_cons_zero, List.set_cons_succ]
             rfl
            refine one_ (i := 21) (N := some 7) #[tT,tT,tT,tT,tT,tT,tT,tT,tT,tT,tT,tT,tT,tT,tT,tT,tT,tT,tT,tT,tT,tT,tT,fF,fF,fF] rfl rfl (one_of HT_.out (by kernel_rfl)) (by decide) (fun K hK => ?_)
            refine box_step ?hg (N := 7) ?hd (cs := #[.int .i64 0, .int .i64 0]) (t := 30) ?hr ?_; (case hd => rfl); (case hg => rfl); (case hr => first | (go_simp; done) | (go_simp; rfl))
            intro gb257 hg w84 hbox hb
            have n0_ := kb BK256 hb
            have n1_ := kb BK258 hb
            have n2_ := sb hb
            have n3_ := Aside0.mk (hbox)
            have n4_ := zb hg
            have n5_ := zb hg
            have n6_ := nl BK256 hg
            have n7_ := ng BK256 hg
            have n8_ := nl BK258 hg
            have n9_ := ng BK258 hg
            clear BK256
            clear BK258
            clear HB
            have BK256 := n0_
            have BK258 := n1_
            have HB := n2_
            have BK257 := n3_
            have GW257 := n4_
            have GE257 := n5_
            have NB256_257 := n6_
            have NB257_256 := n7_
            have NB258_257 := n8_
            have NB257_258 := n9_
            clear n0_ n1_ n2_ n3_ n4_ n5_ n6_ n7_ n8_ n9_
            clear hb hbox hg
            refine hK.out _ _ ⟨((HB.out.cell (bL w _ hw253_0)).trans hw253_0), ((HB.out.cell (bL w _ hw253_1)).trans hw253_1), ((HB.out.cell (bL w _ hw254_0)).trans hw254_0), ((HB.out.cell (bL w _ hw254_1)).trans hw254_1), ((HB.out.cell (bL w _ hw255_0)).trans hw255_0), ((HB.out.cell (bL w _ hw255_1)).trans hw255_1)⟩ (fun hHeld => ?_)
            clear hK K
            refine norm_ (a' := ?_) ?_ ?_
            rotate_left
            ·show Act.put _ (some 7) _ = _
             simp only [Act.put, List.setIfInBounds_toArray, List.set_cons_zero, List.set_cons_succ, i64_w, i32_w]
             rfl
            exact norm_ (by first | (simp only [putAll, Act.put, List.setIfInBounds_toArray, List.set_cons_zero, List.set_cons_succ]; done) | (simp only [putAll, Act.put, List.setIfInBounds_toArray, List.set_cons_zero, List.set_cons_succ]; rfl)) (hJ20_21_22 (gb256, gb257, gb258) _ ⟨hHeld, (bk BK256), (bk BK257), (bk BK258), GW256.out, GE256.out, NB257_256.out, NB256_257.out, NB258_256.out, NB256_258.out, GW257.out, GE257.out, NB258_257.out, NB257_258.out, GW258.out, GE258.out, ib⟩)
          ·skip
           rintro ⟨gb256, gb257⟩ w83 ⟨hS_, h0_, h1_, h2_, h3_, h4_, h5_, h6_, h7_, h8_⟩
           have n0_ : Aside0 (w83.heap[gb256]? = some (.cells #[.int .i64 0, .int .i64 0] 30 (0, 0))) := ⟨h0_⟩
           have n1_ : Aside0 (w83.heap[gb257]? = some (.cells #[.int .i64 0, .int .i64 0] 30 (0, 0))) := ⟨h1_⟩
           have n2_ : Aside0 (w.heap.size ≤ gb256) := ⟨h2_⟩
           have n3_ : Aside0 (w.heap.size ≤ gb256) := ⟨h3_⟩
           have n4_ : Aside0 (gb257 ≠ gb256) := ⟨h4_⟩
           have n5_ : Aside0 (gb256 ≠ gb257) := ⟨h5_⟩
           have n6_ : Aside0 (w.heap.size ≤ gb257) := ⟨h6_⟩
           have n7_ : Aside0 (w.heap.size ≤ gb257) := ⟨h7_⟩
           have n8_ : Aside0 (Below w.heap.size w w83) := ⟨h8_⟩
           clear HB
           clear h0_ h1_ h2_ h3_ h4_ h5_ h6_ h7_ h8_
           have BK256 := n0_
           have BK257 := n1_
           have GW256 := n2_
           have GE256 := n3_
           have NB257_256 := n4_
           have NB256_257 := n5_
           have GW257 := n6_
           have GE257 := n7_
           have HB := n8_
           clear n0_ n1_ n2_ n3_ n4_ n5_ n6_ n7_ n8_
           have hHeld : w83.cell? (ad253.add (((ji4)).toNat * 2)) = some (.int .i64 ((rd_T30 l0 (ji4)).f0)) ∧ w83.cell? ⟨(ad253.add (((ji4)).toNat * 2)).block, (ad253.add (((ji4)).toNat * 2)).off + 1, none⟩ = some (.int .i64 ((rd_T30 l0 (ji4)).f1)) ∧ w83.cell? (ad253.add ((a1).toNat * 2)) = some (.int .i64 ((rd_T30 l0 a1).f0)) ∧ w83.cell? ⟨(ad253.add ((a1).toNat * 2)).block, (ad253.add ((a1).toNat * 2)).off + 1, none⟩ = some (.int .i64 ((rd_T30 l0 a1).f1)) ∧ w83.cell? (ad253.add (((ji9)).toNat * 2)) = some (.int .i64 ((rd_T30 l0 (ji9)).f0)) ∧ w83.cell? ⟨(ad253.add (((ji9)).toNat * 2)).block, (ad253.add (((ji9)).toNat * 2)).off + 1, none⟩ = some (.int .i64 ((rd_T30 l0 (ji9)).f1)) := hS_
           refine norm_ (a' := ?_) ?_ ?_
           rotate_left
           ·simp only [putAll, Act.put, List.setIfInBounds_toArray, List.set_cons_zero, List.set_cons_succ]
            rfl
           refine one_ (i := 22) (N := some 8) #[tT,tT,tT,tT,tT,tT,tT,tT,tT,tT,tT,tT,tT,tT,tT,tT,tT,tT,tT,tT,tT,tT,tT,fF,fF,fF] rfl rfl (one_of HT_.out (by kernel_rfl)) (by decide) (fun K hK => ?_)
           refine box_step ?hg (N := 8) ?hd (cs := #[.int .i64 0, .int .i64 0]) (t := 30) ?hr ?_; (case hd => rfl); (case hg => rfl); (case hr => first | (go_simp; done) | (go_simp; rfl))
           intro gb258 hg w84 hbox hb
           have n0_ := kb BK256 hb
           have n1_ := kb BK257 hb
           have n2_ := sb hb
           have n3_ := Aside0.mk (hbox)
           have n4_ := zb hg
           have n5_ := zb hg
           have n6_ := nl BK256 hg
           have n7_ := ng BK256 hg
           have n8_ := nl BK257 hg
           have n9_ := ng BK257 hg
           clear BK256
           clear BK257
           clear HB
           have BK256 := n0_
           have BK257 := n1_
           have HB := n2_
           have BK258 := n3_
           have GW258 := n4_
           have GE258 := n5_
           have NB256_258 := n6_
           have NB258_256 := n7_
           have NB257_258 := n8_
           have NB258_257 := n9_
           clear n0_ n1_ n2_ n3_ n4_ n5_ n6_ n7_ n8_ n9_
           clear hb hbox hg
           refine hK.out _ _ ⟨((HB.out.cell (bL w _ hw253_0)).trans hw253_0), ((HB.out.cell (bL w _ hw253_1)).trans hw253_1), ((HB.out.cell (bL w _ hw254_0)).trans hw254_0), ((HB.out.cell (bL w _ hw254_1)).trans hw254_1), ((HB.out.cell (bL w _ hw255_0)).trans hw255_0), ((HB.out.cell (bL w _ hw255_1)).trans hw255_1)⟩ (fun hHeld => ?_)
           clear hK K
           refine norm_ (a' := ?_) ?_ ?_
           rotate_left
           ·show Act.put _ (some 8) _ = _
            simp only [Act.put, List.setIfInBounds_toArray, List.set_cons_zero, List.set_cons_succ, i64_w, i32_w]
            rfl
           exact norm_ (by first | (simp only [putAll, Act.put, List.setIfInBounds_toArray, List.set_cons_zero, List.set_cons_succ]; done) | (simp only [putAll, Act.put, List.setIfInBounds_toArray, List.set_cons_zero, List.set_cons_succ]; rfl)) (hJ20_21_22 (gb256, gb257, gb258) _ ⟨hHeld, (bk BK256), (bk BK257), (bk BK258), GW256.out, GE256.out, NB257_256.out, NB256_257.out, NB258_256.out, NB256_258.out, GW257.out, GE257.out, NB258_257.out, NB257_258.out, GW258.out, GE258.out, ib⟩)
         rintro ⟨gb256, gb257, gb258⟩ w84 ⟨hS_, h0_, h1_, h2_, h3_, h4_, h5_, h6_, h7_, h8_, h9_, h10_, h11_, h12_, h13_, h14_, h15_⟩
         have n0_ : Aside0 (w84.heap[gb256]? = some (.cells #[.int .i64 0, .int .i64 0] 30 (0, 0))) := ⟨h0_⟩
         have n1_ : Aside0 (w84.heap[gb257]? = some (.cells #[.int .i64 0, .int .i64 0] 30 (0, 0))) := ⟨h1_⟩
         have n2_ : Aside0 (w84.heap[gb258]? = some (.cells #[.int .i64 0, .int .i64 0] 30 (0, 0))) := ⟨h2_⟩
         have n3_ : Aside0 (w.heap.size ≤ gb256) := ⟨h3_⟩
         have n4_ : Aside0 (w.heap.size ≤ gb256) := ⟨h4_⟩
         have n5_ : Aside0 (gb257 ≠ gb256) := ⟨h5_⟩
         have n6_ : Aside0 (gb256 ≠ gb257) := ⟨h6_⟩
         have n7_ : Aside0 (gb258 ≠ gb256) := ⟨h7_⟩
         have n8_ : Aside0 (gb256 ≠ gb258) := ⟨h8_⟩
         have n9_ : Aside0 (w.heap.size ≤ gb257) := ⟨h9_⟩
         have n10_ : Aside0 (w.heap.size ≤ gb257) := ⟨h10_⟩
         have n11_ : Aside0 (gb258 ≠ gb257) := ⟨h11_⟩
         have n12_ : Aside0 (gb257 ≠ gb258) := ⟨h12_⟩
         have n13_ : Aside0 (w.heap.size ≤ gb258) := ⟨h13_⟩
         have n14_ : Aside0 (w.heap.size ≤ gb258) := ⟨h14_⟩
         have n15_ : Aside0 (Below w.heap.size w w84) := ⟨h15_⟩
         clear HB
         clear h0_ h1_ h2_ h3_ h4_ h5_ h6_ h7_ h8_ h9_ h10_ h11_ h12_ h13_ h14_ h15_
         have BK256 := n0_
         have BK257 := n1_
         have BK258 := n2_
         have GW256 := n3_
         have GE256 := n4_
         have NB257_256 := n5_
         have NB256_257 := n6_
         have NB258_256 := n7_
         have NB256_258 := n8_
         have GW257 := n9_
         have GE257 := n10_
         have NB258_257 := n11_
         have NB257_258 := n12_
         have GW258 := n13_
         have GE258 := n14_
         have HB := n15_
         clear n0_ n1_ n2_ n3_ n4_ n5_ n6_ n7_ n8_ n9_ n10_ n11_ n12_ n13_ n14_ n15_
         have hHeld : w84.cell? (ad253.add (((ji4)).toNat * 2)) = some (.int .i64 ((rd_T30 l0 (ji4)).f0)) ∧ w84.cell? ⟨(ad253.add (((ji4)).toNat * 2)).block, (ad253.add (((ji4)).toNat * 2)).off + 1, none⟩ = some (.int .i64 ((rd_T30 l0 (ji4)).f1)) ∧ w84.cell? (ad253.add ((a1).toNat * 2)) = some (.int .i64 ((rd_T30 l0 a1).f0)) ∧ w84.cell? ⟨(ad253.add ((a1).toNat * 2)).block, (ad253.add ((a1).toNat * 2)).off + 1, none⟩ = some (.int .i64 ((rd_T30 l0 a1).f1)) ∧ w84.cell? (ad253.add (((ji9)).toNat * 2)) = some (.int .i64 ((rd_T30 l0 (ji9)).f0)) ∧ w84.cell? ⟨(ad253.add (((ji9)).toNat * 2)).block, (ad253.add (((ji9)).toNat * 2)).off + 1, none⟩ = some (.int .i64 ((rd_T30 l0 (ji9)).f1)) := hS_
         refine norm_ (a' := ?_) ?_ ?_
         rotate_left
         ·simp only [putAll, Act.put, List.setIfInBounds_toArray, List.set_cons_zero, List.set_cons_succ]
          rfl
         refine one_ (i := 23) (N := none) #[tT,tT,tT,tT,tT,tT,tT,tT,tT,tT,tT,tT,tT,tT,tT,tT,tT,tT,tT,tT,tT,tT,tT,tT,fF,fF] rfl rfl (one_of HT_.out (by kernel_rfl)) (by decide) (fun K hK => ?_)
         have hs85 : w84.cell? ⟨gb256, 0, none⟩ = some (.int .i64 0) := (blk_cell BK256.out 0).trans rfl
         have hfs85 := blk_frozen BK256.out 0
         have hns85_1 := NB257_256.out
         have hns85_2 := NB258_256.out
         have hms85_1 := NB256_257.out
         have hms85_2 := NB256_258.out
         have hs86 : w84.cell? ⟨gb256, 1, none⟩ = some (.int .i64 0) := (blk_cell BK256.out 1).trans rfl
         have hfs86 := blk_frozen BK256.out 1
         have hns86_1 := NB257_256.out
         have hns86_2 := NB258_256.out
         have hms86_1 := NB256_257.out
         have hms86_2 := NB256_258.out
         refine skip_ (w1 := ?_) (by rfl) rfl ?_ ?_
         rotate_left
         ·go_simp
          rfl
         refine hK.out _ _ ⟨((cell_far (p := ⟨gb256, _, none⟩) (by first | exact Nat.ne_of_lt (Nat.lt_of_lt_of_le (by have := bL _ _ hw253_0; first | rwa [add_block] at this | exact this) GW256.out) | (rw [add_block]; exact Nat.ne_of_lt (Nat.lt_of_lt_of_le (by have := bL _ _ hw253_0; first | rwa [add_block] at this | exact this) GW256.out)) | (show (Addr.add _ _).block ≠ _; rw [add_block]; exact Nat.ne_of_lt (Nat.lt_of_lt_of_le (by have := bL _ _ hw253_0; first | rwa [add_block] at this | exact this) GW256.out)) | (dsimp only; exact Nat.ne_of_lt (Nat.lt_of_lt_of_le (by have := bL _ _ hw253_0; first | rwa [add_block] at this | exact this) GW256.out))) _).trans (((cell_far (p := ⟨gb256, _, none⟩) (by first | exact Nat.ne_of_lt (Nat.lt_of_lt_of_le (by have := bL _ _ hw253_0; first | rwa [add_block] at this | exact this) GW256.out) | (rw [add_block]; exact Nat.ne_of_lt (Nat.lt_of_lt_of_le (by have := bL _ _ hw253_0; first | rwa [add_block] at this | exact this) GW256.out)) | (show (Addr.add _ _).block ≠ _; rw [add_block]; exact Nat.ne_of_lt (Nat.lt_of_lt_of_le (by have := bL _ _ hw253_0; first | rwa [add_block] at this | exact this) GW256.out)) | (dsimp only; exact Nat.ne_of_lt (Nat.lt_of_lt_of_le (by have := bL _ _ hw253_0; first | rwa [add_block] at this | exact this) GW256.out))) _).trans (hHeld.1)))), ((cell_far (p := ⟨gb256, _, none⟩) (by first | exact Nat.ne_of_lt (Nat.lt_of_lt_of_le (by have := bL _ _ hw253_1; first | rwa [add_block] at this | exact this) GW256.out) | (rw [add_block]; exact Nat.ne_of_lt (Nat.lt_of_lt_of_le (by have := bL _ _ hw253_1; first | rwa [add_block] at this | exact this) GW256.out)) | (show (Addr.add _ _).block ≠ _; rw [add_block]; exact Nat.ne_of_lt (Nat.lt_of_lt_of_le (by have := bL _ _ hw253_1; first | rwa [add_block] at this | exact this) GW256.out)) | (dsimp only; exact Nat.ne_of_lt (Nat.lt_of_lt_of_le (by have := bL _ _ hw253_1; first | rwa [add_block] at this | exact this) GW256.out))) _).trans (((cell_far (p := ⟨gb256, _, none⟩) (by first | exact Nat.ne_of_lt (Nat.lt_of_lt_of_le (by have := bL _ _ hw253_1; first | rwa [add_block] at this | exact this) GW256.out) | (rw [add_block]; exact Nat.ne_of_lt (Nat.lt_of_lt_of_le (by have := bL _ _ hw253_1; first | rwa [add_block] at this | exact this) GW256.out)) | (show (Addr.add _ _).block ≠ _; rw [add_block]; exact Nat.ne_of_lt (Nat.lt_of_lt_of_le (by have := bL _ _ hw253_1; first | rwa [add_block] at this | exact this) GW256.out)) | (dsimp only; exact Nat.ne_of_lt (Nat.lt_of_lt_of_le (by have := bL _ _ hw253_1; first | rwa [add_block] at this | exact this) GW256.out))) _).trans (hHeld.2.1)))), ((cell_far (p := ⟨gb256, _, none⟩) (by first | exact Nat.ne_of_lt (Nat.lt_of_lt_of_le (by have := bL _ _ hw254_0; first | rwa [add_block] at this | exact this) GW256.out) | (rw [add_block]; exact Nat.ne_of_lt (Nat.lt_of_lt_of_le (by have := bL _ _ hw254_0; first | rwa [add_block] at this | exact this) GW256.out)) | (show (Addr.add _ _).block ≠ _; rw [add_block]; exact Nat.ne_of_lt (Nat.lt_of_lt_of_le (by have := bL _ _ hw254_0; first | rwa [add_block] at this | exact this) GW256.out)) | (dsimp only; exact Nat.ne_of_lt (Nat.lt_of_lt_of_le (by have := bL _ _ hw254_0; first | rwa [add_block] at this | exact this) GW256.out))) _).trans (((cell_far (p := ⟨gb256, _, none⟩) (by first | exact Nat.ne_of_lt (Nat.lt_of_lt_of_le (by have := bL _ _ hw254_0; first | rwa [add_block] at this | exact this) GW256.out) | (rw [add_block]; exact Nat.ne_of_lt (Nat.lt_of_lt_of_le (by have := bL _ _ hw254_0; first | rwa [add_block] at this | exact this) GW256.out)) | (show (Addr.add _ _).block ≠ _; rw [add_block]; exact Nat.ne_of_lt (Nat.lt_of_lt_of_le (by have := bL _ _ hw254_0; first | rwa [add_block] at this | exact this) GW256.out)) | (dsimp only; exact Nat.ne_of_lt (Nat.lt_of_lt_of_le (by have := bL _ _ hw254_0; first | rwa [add_block] at this | exact this) GW256.out))) _).trans (hHeld.2.2.1)))), ((cell_far (p := ⟨gb256, _, none⟩) (by first | exact Nat.ne_of_lt (Nat.lt_of_lt_of_le (by have := bL _ _ hw254_1; first | rwa [add_block] at this | exact this) GW256.out) | (rw [add_block]; exact Nat.ne_of_lt (Nat.lt_of_lt_of_le (by have := bL _ _ hw254_1; first | rwa [add_block] at this | exact this) GW256.out)) | (show (Addr.add _ _).block ≠ _; rw [add_block]; exact Nat.ne_of_lt (Nat.lt_of_lt_of_le (by have := bL _ _ hw254_1; first | rwa [add_block] at this | exact this) GW256.out)) | (dsimp only; exact Nat.ne_of_lt (Nat.lt_of_lt_of_le (by have := bL _ _ hw254_1; first | rwa [add_block] at this | exact this) GW256.out))) _).trans (((cell_far (p := ⟨gb256, _, none⟩) (by first | exact Nat.ne_of_lt (Nat.lt_of_lt_of_le (by have := bL _ _ hw254_1; first | rwa [add_block] at this | exact this) GW256.out) | (rw [add_block]; exact Nat.ne_of_lt (Nat.lt_of_lt_of_le (by have := bL _ _ hw254_1; first | rwa [add_block] at this | exact this) GW256.out)) | (show (Addr.add _ _).block ≠ _; rw [add_block]; exact Nat.ne_of_lt (Nat.lt_of_lt_of_le (by have := bL _ _ hw254_1; first | rwa [add_block] at this | exact this) GW256.out)) | (dsimp only; exact Nat.ne_of_lt (Nat.lt_of_lt_of_le (by have := bL _ _ hw254_1; first | rwa [add_block] at this | exact this) GW256.out))) _).trans (hHeld.2.2.2.1)))), ((cell_far (p := ⟨gb256, _, none⟩) (by first | exact Nat.ne_of_lt (Nat.lt_of_lt_of_le (by have := bL _ _ hw255_0; first | rwa [add_block] at this | exact this) GW256.out) | (rw [add_block]; exact Nat.ne_of_lt (Nat.lt_of_lt_of_le (by have := bL _ _ hw255_0; first | rwa [add_block] at this | exact this) GW256.out)) | (show (Addr.add _ _).block ≠ _; rw [add_block]; exact Nat.ne_of_lt (Nat.lt_of_lt_of_le (by have := bL _ _ hw255_0; first | rwa [add_block] at this | exact this) GW256.out)) | (dsimp only; exact Nat.ne_of_lt (Nat.lt_of_lt_of_le (by have := bL _ _ hw255_0; first | rwa [add_block] at this | exact this) GW256.out))) _).trans (((cell_far (p := ⟨gb256, _, none⟩) (by first | exact Nat.ne_of_lt (Nat.lt_of_lt_of_le (by have := bL _ _ hw255_0; first | rwa [add_block] at this | exact this) GW256.out) | (rw [add_block]; exact Nat.ne_of_lt (Nat.lt_of_lt_of_le (by have := bL _ _ hw255_0; first | rwa [add_block] at this | exact this) GW256.out)) | (show (Addr.add _ _).block ≠ _; rw [add_block]; exact Nat.ne_of_lt (Nat.lt_of_lt_of_le (by have := bL _ _ hw255_0; first | rwa [add_block] at this | exact this) GW256.out)) | (dsimp only; exact Nat.ne_of_lt (Nat.lt_of_lt_of_le (by have := bL _ _ hw255_0; first | rwa [add_block] at this | exact this) GW256.out))) _).trans (hHeld.2.2.2.2.1)))), ((cell_far (p := ⟨gb256, _, none⟩) (by first | exact Nat.ne_of_lt (Nat.lt_of_lt_of_le (by have := bL _ _ hw255_1; first | rwa [add_block] at this | exact this) GW256.out) | (rw [add_block]; exact Nat.ne_of_lt (Nat.lt_of_lt_of_le (by have := bL _ _ hw255_1; first | rwa [add_block] at this | exact this) GW256.out)) | (show (Addr.add _ _).block ≠ _; rw [add_block]; exact Nat.ne_of_lt (Nat.lt_of_lt_of_le (by have := bL _ _ hw255_1; first | rwa [add_block] at this | exact this) GW256.out)) | (dsimp only; exact Nat.ne_of_lt (Nat.lt_of_lt_of_le (by have := bL _ _ hw255_1; first | rwa [add_block] at this | exact this) GW256.out))) _).trans (((cell_far (p := ⟨gb256, _, none⟩) (by first | exact Nat.ne_of_lt (Nat.lt_of_lt_of_le (by have := bL _ _ hw255_1; first | rwa [add_block] at this | exact this) GW256.out) | (rw [add_block]; exact Nat.ne_of_lt (Nat.lt_of_lt_of_le (by have := bL _ _ hw255_1; first | rwa [add_block] at this | exact this) GW256.out)) | (show (Addr.add _ _).block ≠ _; rw [add_block]; exact Nat.ne_of_lt (Nat.lt_of_lt_of_le (by have := bL _ _ hw255_1; first | rwa [add_block] at this | exact this) GW256.out)) | (dsimp only; exact Nat.ne_of_lt (Nat.lt_of_lt_of_le (by have := bL _ _ hw255_1; first | rwa [add_block] at this | exact this) GW256.out))) _).trans (hHeld.2.2.2.2.2))))⟩ (fun hHeld => ?_)
         clear hK K
         refine one_ (i := 24) (N := none) #[tT,tT,tT,tT,tT,tT,tT,tT,tT,tT,tT,tT,tT,tT,tT,tT,tT,tT,tT,tT,tT,tT,tT,tT,tT,fF] rfl rfl (one_of HT_.out (by kernel_rfl)) (by decide) (fun K hK => ?_)
         have hs87 : w84.cell? ⟨gb257, 0, none⟩ = some (.int .i64 0) := (blk_cell BK257.out 0).trans rfl
         have hfs87 := blk_frozen BK257.out 0
         have hns87_0 := NB256_257.out
         have hns87_2 := NB258_257.out
         have hms87_0 := NB257_256.out
         have hms87_2 := NB257_258.out
         have hs88 : w84.cell? ⟨gb257, 1, none⟩ = some (.int .i64 0) := (blk_cell BK257.out 1).trans rfl
         have hfs88 := blk_frozen BK257.out 1
         have hns88_0 := NB256_257.out
         have hns88_2 := NB258_257.out
         have hms88_0 := NB257_256.out
         have hms88_2 := NB257_258.out
         refine skip_ (w1 := ?_) (by rfl) rfl ?_ ?_
         rotate_left
         ·go_simp
          rfl
         refine hK.out _ _ ⟨((cell_far (p := ⟨gb257, _, none⟩) (by first | exact Nat.ne_of_lt (Nat.lt_of_lt_of_le (by have := bL _ _ hw253_0; first | rwa [add_block] at this | exact this) GW257.out) | (rw [add_block]; exact Nat.ne_of_lt (Nat.lt_of_lt_of_le (by have := bL _ _ hw253_0; first | rwa [add_block] at this | exact this) GW257.out)) | (show (Addr.add _ _).block ≠ _; rw [add_block]; exact Nat.ne_of_lt (Nat.lt_of_lt_of_le (by have := bL _ _ hw253_0; first | rwa [add_block] at this | exact this) GW257.out)) | (dsimp only; exact Nat.ne_of_lt (Nat.lt_of_lt_of_le (by have := bL _ _ hw253_0; first | rwa [add_block] at this | exact this) GW257.out))) _).trans (((cell_far (p := ⟨gb257, _, none⟩) (by first | exact Nat.ne_of_lt (Nat.lt_of_lt_of_le (by have := bL _ _ hw253_0; first | rwa [add_block] at this | exact this) GW257.out) | (rw [add_block]; exact Nat.ne_of_lt (Nat.lt_of_lt_of_le (by have := bL _ _ hw253_0; first | rwa [add_block] at this | exact this) GW257.out)) | (show (Addr.add _ _).block ≠ _; rw [add_block]; exact Nat.ne_of_lt (Nat.lt_of_lt_of_le (by have := bL _ _ hw253_0; first | rwa [add_block] at this | exact this) GW257.out)) | (dsimp only; exact Nat.ne_of_lt (Nat.lt_of_lt_of_le (by have := bL _ _ hw253_0; first | rwa [add_block] at this | exact this) GW257.out))) _).trans (hHeld.1)))), ((cell_far (p := ⟨gb257, _, none⟩) (by first | exact Nat.ne_of_lt (Nat.lt_of_lt_of_le (by have := bL _ _ hw253_1; first | rwa [add_block] at this | exact this) GW257.out) | (rw [add_block]; exact Nat.ne_of_lt (Nat.lt_of_lt_of_le (by have := bL _ _ hw253_1; first | rwa [add_block] at this | exact this) GW257.out)) | (show (Addr.add _ _).block ≠ _; rw [add_block]; exact Nat.ne_of_lt (Nat.lt_of_lt_of_le (by have := bL _ _ hw253_1; first | rwa [add_block] at this | exact this) GW257.out)) | (dsimp only; exact Nat.ne_of_lt (Nat.lt_of_lt_of_le (by have := bL _ _ hw253_1; first | rwa [add_block] at this | exact this) GW257.out))) _).trans (((cell_far (p := ⟨gb257, _, none⟩) (by first | exact Nat.ne_of_lt (Nat.lt_of_lt_of_le (by have := bL _ _ hw253_1; first | rwa [add_block] at this | exact this) GW257.out) | (rw [add_block]; exact Nat.ne_of_lt (Nat.lt_of_lt_of_le (by have := bL _ _ hw253_1; first | rwa [add_block] at this | exact this) GW257.out)) | (show (Addr.add _ _).block ≠ _; rw [add_block]; exact Nat.ne_of_lt (Nat.lt_of_lt_of_le (by have := bL _ _ hw253_1; first | rwa [add_block] at this | exact this) GW257.out)) | (dsimp only; exact Nat.ne_of_lt (Nat.lt_of_lt_of_le (by have := bL _ _ hw253_1; first | rwa [add_block] at this | exact this) GW257.out))) _).trans (hHeld.2.1)))), ((cell_far (p := ⟨gb257, _, none⟩) (by first | exact Nat.ne_of_lt (Nat.lt_of_lt_of_le (by have := bL _ _ hw254_0; first | rwa [add_block] at this | exact this) GW257.out) | (rw [add_block]; exact Nat.ne_of_lt (Nat.lt_of_lt_of_le (by have := bL _ _ hw254_0; first | rwa [add_block] at this | exact this) GW257.out)) | (show (Addr.add _ _).block ≠ _; rw [add_block]; exact Nat.ne_of_lt (Nat.lt_of_lt_of_le (by have := bL _ _ hw254_0; first | rwa [add_block] at this | exact this) GW257.out)) | (dsimp only; exact Nat.ne_of_lt (Nat.lt_of_lt_of_le (by have := bL _ _ hw254_0; first | rwa [add_block] at this | exact this) GW257.out))) _).trans (((cell_far (p := ⟨gb257, _, none⟩) (by first | exact Nat.ne_of_lt (Nat.lt_of_lt_of_le (by have := bL _ _ hw254_0; first | rwa [add_block] at this | exact this) GW257.out) | (rw [add_block]; exact Nat.ne_of_lt (Nat.lt_of_lt_of_le (by have := bL _ _ hw254_0; first | rwa [add_block] at this | exact this) GW257.out)) | (show (Addr.add _ _).block ≠ _; rw [add_block]; exact Nat.ne_of_lt (Nat.lt_of_lt_of_le (by have := bL _ _ hw254_0; first | rwa [add_block] at this | exact this) GW257.out)) | (dsimp only; exact Nat.ne_of_lt (Nat.lt_of_lt_of_le (by have := bL _ _ hw254_0; first | rwa [add_block] at this | exact this) GW257.out))) _).trans (hHeld.2.2.1)))), ((cell_far (p := ⟨gb257, _, none⟩) (by first | exact Nat.ne_of_lt (Nat.lt_of_lt_of_le (by have := bL _ _ hw254_1; first | rwa [add_block] at this | exact this) GW257.out) | (rw [add_block]; exact Nat.ne_of_lt (Nat.lt_of_lt_of_le (by have := bL _ _ hw254_1; first | rwa [add_block] at this | exact this) GW257.out)) | (show (Addr.add _ _).block ≠ _; rw [add_block]; exact Nat.ne_of_lt (Nat.lt_of_lt_of_le (by have := bL _ _ hw254_1; first | rwa [add_block] at this | exact this) GW257.out)) | (dsimp only; exact Nat.ne_of_lt (Nat.lt_of_lt_of_le (by have := bL _ _ hw254_1; first | rwa [add_block] at this | exact this) GW257.out))) _).trans (((cell_far (p := ⟨gb257, _, none⟩) (by first | exact Nat.ne_of_lt (Nat.lt_of_lt_of_le (by have := bL _ _ hw254_1; first | rwa [add_block] at this | exact this) GW257.out) | (rw [add_block]; exact Nat.ne_of_lt (Nat.lt_of_lt_of_le (by have := bL _ _ hw254_1; first | rwa [add_block] at this | exact this) GW257.out)) | (show (Addr.add _ _).block ≠ _; rw [add_block]; exact Nat.ne_of_lt (Nat.lt_of_lt_of_le (by have := bL _ _ hw254_1; first | rwa [add_block] at this | exact this) GW257.out)) | (dsimp only; exact Nat.ne_of_lt (Nat.lt_of_lt_of_le (by have := bL _ _ hw254_1; first | rwa [add_block] at this | exact this) GW257.out))) _).trans (hHeld.2.2.2.1)))), ((cell_far (p := ⟨gb257, _, none⟩) (by first | exact Nat.ne_of_lt (Nat.lt_of_lt_of_le (by have := bL _ _ hw255_0; first | rwa [add_block] at this | exact this) GW257.out) | (rw [add_block]; exact Nat.ne_of_lt (Nat.lt_of_lt_of_le (by have := bL _ _ hw255_0; first | rwa [add_block] at this | exact this) GW257.out)) | (show (Addr.add _ _).block ≠ _; rw [add_block]; exact Nat.ne_of_lt (Nat.lt_of_lt_of_le (by have := bL _ _ hw255_0; first | rwa [add_block] at this | exact this) GW257.out)) | (dsimp only; exact Nat.ne_of_lt (Nat.lt_of_lt_of_le (by have := bL _ _ hw255_0; first | rwa [add_block] at this | exact this) GW257.out))) _).trans (((cell_far (p := ⟨gb257, _, none⟩) (by first | exact Nat.ne_of_lt (Nat.lt_of_lt_of_le (by have := bL _ _ hw255_0; first | rwa [add_block] at this | exact this) GW257.out) | (rw [add_block]; exact Nat.ne_of_lt (Nat.lt_of_lt_of_le (by have := bL _ _ hw255_0; first | rwa [add_block] at this | exact this) GW257.out)) | (show (Addr.add _ _).block ≠ _; rw [add_block]; exact Nat.ne_of_lt (Nat.lt_of_lt_of_le (by have := bL _ _ hw255_0; first | rwa [add_block] at this | exact this) GW257.out)) | (dsimp only; exact Nat.ne_of_lt (Nat.lt_of_lt_of_le (by have := bL _ _ hw255_0; first | rwa [add_block] at this | exact this) GW257.out))) _).trans (hHeld.2.2.2.2.1)))), ((cell_far (p := ⟨gb257, _, none⟩) (by first | exact Nat.ne_of_lt (Nat.lt_of_lt_of_le (by have := bL _ _ hw255_1; first | rwa [add_block] at this | exact this) GW257.out) | (rw [add_block]; exact Nat.ne_of_lt (Nat.lt_of_lt_of_le (by have := bL _ _ hw255_1; first | rwa [add_block] at this | exact this) GW257.out)) | (show (Addr.add _ _).block ≠ _; rw [add_block]; exact Nat.ne_of_lt (Nat.lt_of_lt_of_le (by have := bL _ _ hw255_1; first | rwa [add_block] at this | exact this) GW257.out)) | (dsimp only; exact Nat.ne_of_lt (Nat.lt_of_lt_of_le (by have := bL _ _ hw255_1; first | rwa [add_block] at this | exact this) GW257.out))) _).trans (((cell_far (p := ⟨gb257, _, none⟩) (by first | exact Nat.ne_of_lt (Nat.lt_of_lt_of_le (by have := bL _ _ hw255_1; first | rwa [add_block] at this | exact this) GW257.out) | (rw [add_block]; exact Nat.ne_of_lt (Nat.lt_of_lt_of_le (by have := bL _ _ hw255_1; first | rwa [add_block] at this | exact this) GW257.out)) | (show (Addr.add _ _).block ≠ _; rw [add_block]; exact Nat.ne_of_lt (Nat.lt_of_lt_of_le (by have := bL _ _ hw255_1; first | rwa [add_block] at this | exact this) GW257.out)) | (dsimp only; exact Nat.ne_of_lt (Nat.lt_of_lt_of_le (by have := bL _ _ hw255_1; first | rwa [add_block] at this | exact this) GW257.out))) _).trans (hHeld.2.2.2.2.2))))⟩ (fun hHeld => ?_)
         clear hK K
         refine one_ (i := 25) (N := none) #[tT,tT,tT,tT,tT,tT,tT,tT,tT,tT,tT,tT,tT,tT,tT,tT,tT,tT,tT,tT,tT,tT,tT,tT,tT,tT] rfl rfl (one_of HT_.out (by kernel_rfl)) (by decide) (fun K hK => ?_)
         have hs89 : w84.cell? ⟨gb258, 0, none⟩ = some (.int .i64 0) := (blk_cell BK258.out 0).trans rfl
         have hfs89 := blk_frozen BK258.out 0
         have hns89_0 := NB256_258.out
         have hns89_1 := NB257_258.out
         have hms89_0 := NB258_256.out
         have hms89_1 := NB258_257.out
         have hs90 : w84.cell? ⟨gb258, 1, none⟩ = some (.int .i64 0) := (blk_cell BK258.out 1).trans rfl
         have hfs90 := blk_frozen BK258.out 1
         have hns90_0 := NB256_258.out
         have hns90_1 := NB257_258.out
         have hms90_0 := NB258_256.out
         have hms90_1 := NB258_257.out
         refine skip_ (w1 := ?_) (by rfl) rfl ?_ ?_
         rotate_left
         ·go_simp
          rfl
         refine hK.out _ _ ⟨((cell_far (p := ⟨gb258, _, none⟩) (by first | exact Nat.ne_of_lt (Nat.lt_of_lt_of_le (by have := bL _ _ hw253_0; first | rwa [add_block] at this | exact this) GW258.out) | (rw [add_block]; exact Nat.ne_of_lt (Nat.lt_of_lt_of_le (by have := bL _ _ hw253_0; first | rwa [add_block] at this | exact this) GW258.out)) | (show (Addr.add _ _).block ≠ _; rw [add_block]; exact Nat.ne_of_lt (Nat.lt_of_lt_of_le (by have := bL _ _ hw253_0; first | rwa [add_block] at this | exact this) GW258.out)) | (dsimp only; exact Nat.ne_of_lt (Nat.lt_of_lt_of_le (by have := bL _ _ hw253_0; first | rwa [add_block] at this | exact this) GW258.out))) _).trans (((cell_far (p := ⟨gb258, _, none⟩) (by first | exact Nat.ne_of_lt (Nat.lt_of_lt_of_le (by have := bL _ _ hw253_0; first | rwa [add_block] at this | exact this) GW258.out) | (rw [add_block]; exact Nat.ne_of_lt (Nat.lt_of_lt_of_le (by have := bL _ _ hw253_0; first | rwa [add_block] at this | exact this) GW258.out)) | (show (Addr.add _ _).block ≠ _; rw [add_block]; exact Nat.ne_of_lt (Nat.lt_of_lt_of_le (by have := bL _ _ hw253_0; first | rwa [add_block] at this | exact this) GW258.out)) | (dsimp only; exact Nat.ne_of_lt (Nat.lt_of_lt_of_le (by have := bL _ _ hw253_0; first | rwa [add_block] at this | exact this) GW258.out))) _).trans (hHeld.1)))), ((cell_far (p := ⟨gb258, _, none⟩) (by first | exact Nat.ne_of_lt (Nat.lt_of_lt_of_le (by have := bL _ _ hw253_1; first | rwa [add_block] at this | exact this) GW258.out) | (rw [add_block]; exact Nat.ne_of_lt (Nat.lt_of_lt_of_le (by have := bL _ _ hw253_1; first | rwa [add_block] at this | exact this) GW258.out)) | (show (Addr.add _ _).block ≠ _; rw [add_block]; exact Nat.ne_of_lt (Nat.lt_of_lt_of_le (by have := bL _ _ hw253_1; first | rwa [add_block] at this | exact this) GW258.out)) | (dsimp only; exact Nat.ne_of_lt (Nat.lt_of_lt_of_le (by have := bL _ _ hw253_1; first | rwa [add_block] at this | exact this) GW258.out))) _).trans (((cell_far (p := ⟨gb258, _, none⟩) (by first | exact Nat.ne_of_lt (Nat.lt_of_lt_of_le (by have := bL _ _ hw253_1; first | rwa [add_block] at this | exact this) GW258.out) | (rw [add_block]; exact Nat.ne_of_lt (Nat.lt_of_lt_of_le (by have := bL _ _ hw253_1; first | rwa [add_block] at this | exact this) GW258.out)) | (show (Addr.add _ _).block ≠ _; rw [add_block]; exact Nat.ne_of_lt (Nat.lt_of_lt_of_le (by have := bL _ _ hw253_1; first | rwa [add_block] at this | exact this) GW258.out)) | (dsimp only; exact Nat.ne_of_lt (Nat.lt_of_lt_of_le (by have := bL _ _ hw253_1; first | rwa [add_block] at this | exact this) GW258.out))) _).trans (hHeld.2.1)))), ((cell_far (p := ⟨gb258, _, none⟩) (by first | exact Nat.ne_of_lt (Nat.lt_of_lt_of_le (by have := bL _ _ hw254_0; first | rwa [add_block] at this | exact this) GW258.out) | (rw [add_block]; exact Nat.ne_of_lt (Nat.lt_of_lt_of_le (by have := bL _ _ hw254_0; first | rwa [add_block] at this | exact this) GW258.out)) | (show (Addr.add _ _).block ≠ _; rw [add_block]; exact Nat.ne_of_lt (Nat.lt_of_lt_of_le (by have := bL _ _ hw254_0; first | rwa [add_block] at this | exact this) GW258.out)) | (dsimp only; exact Nat.ne_of_lt (Nat.lt_of_lt_of_le (by have := bL _ _ hw254_0; first | rwa [add_block] at this | exact this) GW258.out))) _).trans (((cell_far (p := ⟨gb258, _, none⟩) (by first | exact Nat.ne_of_lt (Nat.lt_of_lt_of_le (by have := bL _ _ hw254_0; first | rwa [add_block] at this | exact this) GW258.out) | (rw [add_block]; exact Nat.ne_of_lt (Nat.lt_of_lt_of_le (by have := bL _ _ hw254_0; first | rwa [add_block] at this | exact this) GW258.out)) | (show (Addr.add _ _).block ≠ _; rw [add_block]; exact Nat.ne_of_lt (Nat.lt_of_lt_of_le (by have := bL _ _ hw254_0; first | rwa [add_block] at this | exact this) GW258.out)) | (dsimp only; exact Nat.ne_of_lt (Nat.lt_of_lt_of_le (by have := bL _ _ hw254_0; first | rwa [add_block] at this | exact this) GW258.out))) _).trans (hHeld.2.2.1)))), ((cell_far (p := ⟨gb258, _, none⟩) (by first | exact Nat.ne_of_lt (Nat.lt_of_lt_of_le (by have := bL _ _ hw254_1; first | rwa [add_block] at this | exact this) GW258.out) | (rw [add_block]; exact Nat.ne_of_lt (Nat.lt_of_lt_of_le (by have := bL _ _ hw254_1; first | rwa [add_block] at this | exact this) GW258.out)) | (show (Addr.add _ _).block ≠ _; rw [add_block]; exact Nat.ne_of_lt (Nat.lt_of_lt_of_le (by have := bL _ _ hw254_1; first | rwa [add_block] at this | exact this) GW258.out)) | (dsimp only; exact Nat.ne_of_lt (Nat.lt_of_lt_of_le (by have := bL _ _ hw254_1; first | rwa [add_block] at this | exact this) GW258.out))) _).trans (((cell_far (p := ⟨gb258, _, none⟩) (by first | exact Nat.ne_of_lt (Nat.lt_of_lt_of_le (by have := bL _ _ hw254_1; first | rwa [add_block] at this | exact this) GW258.out) | (rw [add_block]; exact Nat.ne_of_lt (Nat.lt_of_lt_of_le (by have := bL _ _ hw254_1; first | rwa [add_block] at this | exact this) GW258.out)) | (show (Addr.add _ _).block ≠ _; rw [add_block]; exact Nat.ne_of_lt (Nat.lt_of_lt_of_le (by have := bL _ _ hw254_1; first | rwa [add_block] at this | exact this) GW258.out)) | (dsimp only; exact Nat.ne_of_lt (Nat.lt_of_lt_of_le (by have := bL _ _ hw254_1; first | rwa [add_block] at this | exact this) GW258.out))) _).trans (hHeld.2.2.2.1)))), ((cell_far (p := ⟨gb258, _, none⟩) (by first | exact Nat.ne_of_lt (Nat.lt_of_lt_of_le (by have := bL _ _ hw255_0; first | rwa [add_block] at this | exact this) GW258.out) | (rw [add_block]; exact Nat.ne_of_lt (Nat.lt_of_lt_of_le (by have := bL _ _ hw255_0; first | rwa [add_block] at this | exact this) GW258.out)) | (show (Addr.add _ _).block ≠ _; rw [add_block]; exact Nat.ne_of_lt (Nat.lt_of_lt_of_le (by have := bL _ _ hw255_0; first | rwa [add_block] at this | exact this) GW258.out)) | (dsimp only; exact Nat.ne_of_lt (Nat.lt_of_lt_of_le (by have := bL _ _ hw255_0; first | rwa [add_block] at this | exact this) GW258.out))) _).trans (((cell_far (p := ⟨gb258, _, none⟩) (by first | exact Nat.ne_of_lt (Nat.lt_of_lt_of_le (by have := bL _ _ hw255_0; first | rwa [add_block] at this | exact this) GW258.out) | (rw [add_block]; exact Nat.ne_of_lt (Nat.lt_of_lt_of_le (by have := bL _ _ hw255_0; first | rwa [add_block] at this | exact this) GW258.out)) | (show (Addr.add _ _).block ≠ _; rw [add_block]; exact Nat.ne_of_lt (Nat.lt_of_lt_of_le (by have := bL _ _ hw255_0; first | rwa [add_block] at this | exact this) GW258.out)) | (dsimp only; exact Nat.ne_of_lt (Nat.lt_of_lt_of_le (by have := bL _ _ hw255_0; first | rwa [add_block] at this | exact this) GW258.out))) _).trans (hHeld.2.2.2.2.1)))), ((cell_far (p := ⟨gb258, _, none⟩) (by first | exact Nat.ne_of_lt (Nat.lt_of_lt_of_le (by have := bL _ _ hw255_1; first | rwa [add_block] at this | exact this) GW258.out) | (rw [add_block]; exact Nat.ne_of_lt (Nat.lt_of_lt_of_le (by have := bL _ _ hw255_1; first | rwa [add_block] at this | exact this) GW258.out)) | (show (Addr.add _ _).block ≠ _; rw [add_block]; exact Nat.ne_of_lt (Nat.lt_of_lt_of_le (by have := bL _ _ hw255_1; first | rwa [add_block] at this | exact this) GW258.out)) | (dsimp only; exact Nat.ne_of_lt (Nat.lt_of_lt_of_le (by have := bL _ _ hw255_1; first | rwa [add_block] at this | exact this) GW258.out))) _).trans (((cell_far (p := ⟨gb258, _, none⟩) (by first | exact Nat.ne_of_lt (Nat.lt_of_lt_of_le (by have := bL _ _ hw255_1; first | rwa [add_block] at this | exact this) GW258.out) | (rw [add_block]; exact Nat.ne_of_lt (Nat.lt_of_lt_of_le (by have := bL _ _ hw255_1; first | rwa [add_block] at this | exact this) GW258.out)) | (show (Addr.add _ _).block ≠ _; rw [add_block]; exact Nat.ne_of_lt (Nat.lt_of_lt_of_le (by have := bL _ _ hw255_1; first | rwa [add_block] at this | exact this) GW258.out)) | (dsimp only; exact Nat.ne_of_lt (Nat.lt_of_lt_of_le (by have := bL _ _ hw255_1; first | rwa [add_block] at this | exact this) GW258.out))) _).trans (hHeld.2.2.2.2.2))))⟩ (fun hHeld => ?_)
         clear hK K
         refine done_ (done_of HT_.out (by kernel_rfl)) ?_
         have hnb91 := NB256_257.out
         have hnc91 := NB257_256.out
         have hnb92 := NB256_258.out
         have hnc92 := NB258_256.out
         have hcz93_0 := ck BK256 0
         have hcz93_1 := ck BK256 1
         have hfz93_0 := blk_frozen BK256.out 0
         have hfz93_1 := blk_frozen BK256.out 1
         have hnb94 := NB257_258.out
         have hnc94 := NB258_257.out
         have hcz95_0 := ck BK257 0
         have hcz95_1 := ck BK257 1
         have hfz95_0 := blk_frozen BK257.out 0
         have hfz95_1 := blk_frozen BK257.out 1
         have hcz96_0 := ck BK258 0
         have hcz96_1 := ck BK258 1
         have hfz96_0 := blk_frozen BK258.out 0
         have hfz96_1 := blk_frozen BK258.out 1
         try go_wp2_with (first | ((with_reducible refine gate_callee (f := 72) rfl ?_); refine goesL_ (some 36) rfl rfl Try.func72 (by kernel_rfl) rfl #[.agg #[.int .i64 ((rd_T30 l0 (ji4)).f0), .int .i64 ((rd_T30 l0 (ji4)).f1)], .agg #[.int .i64 ((rd_T30 l0 a1).f0), .int .i64 ((rd_T30 l0 a1).f1)], .agg #[.int .i64 ((rd_T30 l0 (ji9)).f0), .int .i64 ((rd_T30 l0 (ji9)).f1)]] rfl (by (try simp only [List.map_toArray, List.map_cons, List.map_nil]); first | done | (simp only [hji4, hji9]; rfl) | rfl | (simp only [List.length_drop, List.length_take]; rfl)) ?_; (with_reducible refine (impl_side.calls ((rd_T30 l0 (ji4)).f0) ((rd_T30 l0 (ji4)).f1) ((rd_T30 l0 a1).f0) ((rd_T30 l0 a1).f1) ((rd_T30 l0 (ji9)).f0) ((rd_T30 l0 (ji9)).f1) t259 _ A12.out).mono ?_); rintro e w97 ⟨rfl, hb⟩; refine ⟨_, rfl, ?_⟩; have n0_ := Aside0.mk (blk_below (g := gb256) (o := .cells #[.int .i64 ((rd_T30 l0 (ji4)).f0), .int .i64 ((rd_T30 l0 (ji4)).f1)] 30 (0, 0)) (by (with_reducible repeat (first | refine blk_drewN ?_ _ | refine blk_drew ?_ | refine blk_alloc ?_ _)); refine blk_far ?_ NB256_258.out _; (with_reducible repeat (first | refine blk_drewN ?_ _ | refine blk_drew ?_ | refine blk_alloc ?_ _)); refine blk_far ?_ NB256_258.out _; (with_reducible repeat (first | refine blk_drewN ?_ _ | refine blk_drew ?_ | refine blk_alloc ?_ _)); refine blk_far ?_ NB256_257.out _; (with_reducible repeat (first | refine blk_drewN ?_ _ | refine blk_drew ?_ | refine blk_alloc ?_ _)); refine blk_far ?_ NB256_257.out _; (with_reducible repeat (first | refine blk_drewN ?_ _ | refine blk_drew ?_ | refine blk_alloc ?_ _)); refine blk_put (cs := #[.int .i64 ((rd_T30 l0 (ji4)).f0), .int .i64 0]) ?_ 1 _ rfl; (with_reducible repeat (first | refine blk_drewN ?_ _ | refine blk_drew ?_ | refine blk_alloc ?_ _)); refine blk_put (cs := #[.int .i64 0, .int .i64 0]) ?_ 0 _ rfl; (with_reducible repeat (first | refine blk_drewN ?_ _ | refine blk_drew ?_ | refine blk_alloc ?_ _)); exact BK256.out) hb); have n1_ := Aside0.mk (blk_below (g := gb257) (o := .cells #[.int .i64 ((rd_T30 l0 a1).f0), .int .i64 ((rd_T30 l0 a1).f1)] 30 (0, 0)) (by (with_reducible repeat (first | refine blk_drewN ?_ _ | refine blk_drew ?_ | refine blk_alloc ?_ _)); refine blk_far ?_ NB257_258.out _; (with_reducible repeat (first | refine blk_drewN ?_ _ | refine blk_drew ?_ | refine blk_alloc ?_ _)); refine blk_far ?_ NB257_258.out _; (with_reducible repeat (first | refine blk_drewN ?_ _ | refine blk_drew ?_ | refine blk_alloc ?_ _)); refine blk_put (cs := #[.int .i64 ((rd_T30 l0 a1).f0), .int .i64 0]) ?_ 1 _ rfl; (with_reducible repeat (first | refine blk_drewN ?_ _ | refine blk_drew ?_ | refine blk_alloc ?_ _)); refine blk_put (cs := #[.int .i64 0, .int .i64 0]) ?_ 0 _ rfl; (with_reducible repeat (first | refine blk_drewN ?_ _ | refine blk_drew ?_ | refine blk_alloc ?_ _)); refine blk_far ?_ NB257_256.out _; (with_reducible repeat (first | refine blk_drewN ?_ _ | refine blk_drew ?_ | refine blk_alloc ?_ _)); refine blk_far ?_ NB257_256.out _; (with_reducible repeat (first | refine blk_drewN ?_ _ | refine blk_drew ?_ | refine blk_alloc ?_ _)); exact BK257.out) hb); have n2_ := Aside0.mk (blk_below (g := gb258) (o := .cells #[.int .i64 ((rd_T30 l0 (ji9)).f0), .int .i64 ((rd_T30 l0 (ji9)).f1)] 30 (0, 0)) (by (with_reducible repeat (first | refine blk_drewN ?_ _ | refine blk_drew ?_ | refine blk_alloc ?_ _)); refine blk_put (cs := #[.int .i64 ((rd_T30 l0 (ji9)).f0), .int .i64 0]) ?_ 1 _ rfl; (with_reducible repeat (first | refine blk_drewN ?_ _ | refine blk_drew ?_ | refine blk_alloc ?_ _)); refine blk_put (cs := #[.int .i64 0, .int .i64 0]) ?_ 0 _ rfl; (with_reducible repeat (first | refine blk_drewN ?_ _ | refine blk_drew ?_ | refine blk_alloc ?_ _)); refine blk_far ?_ NB258_257.out _; (with_reducible repeat (first | refine blk_drewN ?_ _ | refine blk_drew ?_ | refine blk_alloc ?_ _)); refine blk_far ?_ NB258_257.out _; (with_reducible repeat (first | refine blk_drewN ?_ _ | refine blk_drew ?_ | refine blk_alloc ?_ _)); refine blk_far ?_ NB258_256.out _; (with_reducible repeat (first | refine blk_drewN ?_ _ | refine blk_drew ?_ | refine blk_alloc ?_ _)); refine blk_far ?_ NB258_256.out _; (with_reducible repeat (first | refine blk_drewN ?_ _ | refine blk_drew ?_ | refine blk_alloc ?_ _)); exact BK258.out) hb); have n3_ := sb hb; clear BK256; clear BK257; clear BK258; clear HB; have BK256 := n0_; have BK257 := n1_; have BK258 := n2_; have HB := n3_; clear n0_ n1_ n2_ n3_; (try clear hb); (try clear hb2); (try clear hk); (try clear hi)))
         go_ret
         exact ⟨by first | rfl | (simp [errW_none, errW_some] <;> rfl) | (simp only [← hji4, ← hji9]; first | rfl | (simp [errW_none, errW_some] <;> rfl)) | (simp [*, errW_none, errW_some] <;> rfl), by repeat (first | (with_reducible first | exact HB.out | apply below_alloc | apply pw_below_drewN | apply below_drew1 | refine below_set ?_ GE256.out | refine below_set ?_ GE257.out | refine below_set ?_ GE258.out) | exact HB.out)⟩
       ·rw [if_neg c11] at H
        exact absurd H (by simp)
      ·rw [if_neg c10] at H
       exact absurd H (by simp)
     ·rw [if_neg c8] at H
      exact absurd H (by simp)
    ·rw [if_neg c7] at H
     exact absurd H (by simp)
   ·rw [if_neg c6] at H
    exact absurd H (by simp)
  ·rw [if_neg c5] at H
   exact absurd H (by simp)
end Go.Proofs.Ytkobmkdjmpnojaa.PFnExactEarsOf
