/- Contracts of functions that FnExactEdgesOf reaches, out of the lines of the kit's print. -/
import Derived.Test.YtpeebobdbaemiaaQFnExactEdgesOfx0
import Derived.Test.YtpeebobdbaemiaaQFnExactEdgesOfx2
import Derived.Test.YtpeebobdbaemiaaQFnExactEdgesOfx13
import Derived.Test.YtpeebobdbaemiaaQFnExactEdgesOfx14
namespace Go.Proofs.Ytpeebobdbaemiaa.PFnExactEdgesOf
open Go.RowKit Go.Proofs.YtpeebobdbaemiaaW.PrintWords Go.Proofs.YtpeebobdbaemiaaW.PrintLast Go.Proofs.YtpeebobdbaemiaaW.PrintMore
open Bool renaming true → tT, false → fF
open Go.World renaming block_lt_of_cell? → bL
open List renaming setIfInBounds_toArray → iT, set_cons_zero → sZ, set_cons_succ → sC
open Option renaming bind_eq_some_iff → bE
attribute [local go_sem] max2_int min2_int max_two min_two max_three min_three max_four min_four
set_option linter.unusedVariables false
set_option linter.unusedSimpArgs false
attribute [local go_sem high] eqA78
mutual
def impl_ValidPolygon.j0 : Nat → List (S78) → Int → Bool → Option (Bool)
 | 0,_,_,_ => none
 | k + 1,x0,x3,x21 => if x21 = true then (some false) else (impl_ValidPolygon.l0 k x0 x3 (x0.length : Int) 0)
def impl_ValidPolygon.l0 : Nat → List (S78) → Int → Int → Int → Option (Bool)
 | 0,_,_,_,_ => none
 | k + 1,x0,x3,x23,x24 => if x24 < x23 then (if 0 ≤ x24 then (if x24 < (x0.length : Int) then (if x3 = 0 then (none) else (if 0 ≤ (Int.tmod (wrap64 (x24 + 1)) x3) then (if (Int.tmod (wrap64 (x24 + 1)) x3) < (x0.length : Int) then (if 0 ≤ (Int.tmod (wrap64 (x24 + 2)) x3) then (if (Int.tmod (wrap64 (x24 + 2)) x3) < (x0.length : Int) then (if (((rd_T78 x0 x24).f0) == ((rd_T78 x0 (Int.tmod (wrap64 (x24 + 1)) x3)).f0) && (((rd_T78 x0 x24).f1) == ((rd_T78 x0 (Int.tmod (wrap64 (x24 + 1)) x3)).f1))) = true then (impl_ValidPolygon.j2 k x0 x3 x24 x23 x24 true ((rd_T78 x0 x24).f0) ((rd_T78 x0 x24).f1) ((rd_T78 x0 (Int.tmod (wrap64 (x24 + 1)) x3)).f0) ((rd_T78 x0 (Int.tmod (wrap64 (x24 + 1)) x3)).f1)) else ((impl_on.f ((rd_T78 x0 x24).f0) ((rd_T78 x0 x24).f1) ((rd_T78 x0 (Int.tmod (wrap64 (x24 + 1)) x3)).f0) ((rd_T78 x0 (Int.tmod (wrap64 (x24 + 1)) x3)).f1) ((rd_T78 x0 (Int.tmod (wrap64 (x24 + 2)) x3)).f0) ((rd_T78 x0 (Int.tmod (wrap64 (x24 + 2)) x3)).f1)).bind fun t346 => (if t346 = true then (impl_ValidPolygon.j2 k x0 x3 x24 x23 x24 true ((rd_T78 x0 x24).f0) ((rd_T78 x0 x24).f1) ((rd_T78 x0 (Int.tmod (wrap64 (x24 + 1)) x3)).f0) ((rd_T78 x0 (Int.tmod (wrap64 (x24 + 1)) x3)).f1)) else ((impl_on.f ((rd_T78 x0 (Int.tmod (wrap64 (x24 + 1)) x3)).f0) ((rd_T78 x0 (Int.tmod (wrap64 (x24 + 1)) x3)).f1) ((rd_T78 x0 (Int.tmod (wrap64 (x24 + 2)) x3)).f0) ((rd_T78 x0 (Int.tmod (wrap64 (x24 + 2)) x3)).f1) ((rd_T78 x0 x24).f0) ((rd_T78 x0 x24).f1)).bind fun t347 => (impl_ValidPolygon.j2 k x0 x3 x24 x23 x24 t347 ((rd_T78 x0 x24).f0) ((rd_T78 x0 x24).f1) ((rd_T78 x0 (Int.tmod (wrap64 (x24 + 1)) x3)).f0) ((rd_T78 x0 (Int.tmod (wrap64 (x24 + 1)) x3)).f1)))))) else (none)) else (none)) else (none)) else (none))) else (none)) else (none)) else ((impl_doubled.f k x0).bind fun t339 => (some (decide (t339 > 0))))
def impl_ValidPolygon.j2 : Nat → List (S78) → Int → Int → Int → Int → Bool → Int → Int → Int → Int → Option (Bool)
 | 0,_,_,_,_,_,_,_,_,_,_ => none
 | k + 1,x0,x3,x4,x23,x24,x59,x344000,x344001,x345000,x345001 => if x59 = true then (some false) else (impl_ValidPolygon.l1 k x0 x3 x4 (wrap64 (x4 + 2)) x23 x24 x344000 x344001 x345000 x345001)
def impl_ValidPolygon.l1 : Nat → List (S78) → Int → Int → Int → Int → Int → Int → Int → Int → Int → Option (Bool)
 | 0,_,_,_,_,_,_,_,_,_,_ => none
 | k + 1,x0,x3,x4,x8,x23,x24,x344000,x344001,x345000,x345001 => if x8 < x3 then (if x3 = 0 then (none) else (if (Int.tmod (wrap64 (x8 + 1)) x3) = x4 then (impl_ValidPolygon.l1 k x0 x3 x4 (wrap64 (x8 + 1)) x23 x24 x344000 x344001 x345000 x345001) else (if 0 ≤ x8 then (if x8 < (x0.length : Int) then (if 0 ≤ (Int.tmod (wrap64 (x8 + 1)) x3) then (if (Int.tmod (wrap64 (x8 + 1)) x3) < (x0.length : Int) then ((impl_touching.f x344000 x344001 x345000 x345001 ((rd_T78 x0 x8).f0) ((rd_T78 x0 x8).f1) ((rd_T78 x0 (Int.tmod (wrap64 (x8 + 1)) x3)).f0) ((rd_T78 x0 (Int.tmod (wrap64 (x8 + 1)) x3)).f1)).bind fun t350 => (if t350 = true then (some false) else (impl_ValidPolygon.l1 k x0 x3 x4 (wrap64 (x8 + 1)) x23 x24 x344000 x344001 x345000 x345001))) else (none)) else (none)) else (none)) else (none)))) else (impl_ValidPolygon.l0 k x0 x3 x23 (wrap64 (x24 + 1)))
end
def impl_ValidPolygon.f (k : Nat) (l0 : List (S78)) : Option (Bool):=if (l0.length : Int) < 3 then (impl_ValidPolygon.j0 k l0 (l0.length : Int) true) else (if (l0.length : Int) > 24 then (impl_ValidPolygon.j0 k l0 (l0.length : Int) true) else ((impl_validPoints.f k l0).bind fun t338 => (impl_ValidPolygon.j0 k l0 (l0.length : Int) (!t338))))
def impl_ValidPolygon.T7 : Bool × List (List Nat × List Nat):=(true,[([],[]),([],[]),([0,1],[0,1]),([2],[2]),([],[]),([],[]),([5],[5]),([],[]),([6,7],[6,7]),([4,8],[4,8]),([9],[9]),([],[]),([],[]),([12],[12]),([],[]),([13,14],[13,14]),([11,15],[11,15]),([16],[16]),([],[]),([],[]),([],[]),([18,3,0,1,2,3,18,19,20],[3,18]),([19,10,21,0,1,2,3,4,5,6,7,8,9,10,18,19,20,21],[10,19]),([20,17,22,0,1,2,3,4,5,6,7,8,9,10,11,12,13,14,15,16,17,18,19,20,21,22],[17,20])])
def impl_ValidPolygon.B7 : List Nat:=[0,0,3,7,0,0,32,0,224,496,1008,0,0,4096,0,28672,63488,129024,0,0,0,1835023,3934207,8388607]
theorem impl_ValidPolygon.tab7 : rtab .any (opsOf Try.f56 7) = impl_ValidPolygon.T7:=by kernel_rfl
theorem impl_ValidPolygon.bits7 : waitsOk impl_ValidPolygon.T7.2 impl_ValidPolygon.B7 = true:=by kernel_rfl
def impl_ValidPolygon.T13 : Bool × List (List Nat × List Nat):=(true,[([],[]),([0],[0]),([],[]),([1,2],[1,2]),([],[]),([3,4],[3,4]),([5],[5]),([6],[6]),([6],[6]),([6],[6]),([6],[6]),([9,10,6],[6,9,10]),([11,6],[6,11]),([6],[6]),([6],[6]),([14,6],[6,14]),([6],[6]),([15,16,6],[6,15,16]),([13,17,6],[6,13,17]),([18,6],[6,18]),([7,8,12,19,6,6],[6,7,8,12,19]),([6,20],[6,20])])
def impl_ValidPolygon.B13 : List Nat:=[0,1,0,7,0,31,63,127,127,127,127,1663,3711,127,127,16511,127,114815,254079,516223,1048575,2097151]
theorem impl_ValidPolygon.tab13 : rtab .any (opsOf Try.f56 13) = impl_ValidPolygon.T13:=by kernel_rfl
theorem impl_ValidPolygon.bits13 : waitsOk impl_ValidPolygon.T13.2 impl_ValidPolygon.B13 = true:=by kernel_rfl
set_option maxHeartbeats 8000000 in
set_option maxRecDepth 100000 in
theorem impl_ValidPolygon.calls (k : Nat) (A0 : Option Addr) (c0 : Nat) (l0 : List (S78)) (r : Bool) (w : World) (hr0 : Kd.C k78 w A0 l0.length l0) (hc0 : l0.length ≤ c0) (h : impl_ValidPolygon.f k l0 = some r) :
  Calls Try.prog 56 #[.slice A0 l0.length c0] w fun e w' => e = .returned (.bool r) ∧ Below w.heap.size w w':=by
 have hu78:=Try.underlying78
 have HR0:=Aside0.mk hr0
 have HC0:=Aside0.mk hc0
 clear hr0 hc0
 have HB:=Aside0.mk (Below.refl w.heap.size w)
 have H : (if (l0.length : Int) < 3 then (impl_ValidPolygon.j0 k l0 (l0.length : Int) true) else (if (l0.length : Int) > 24 then (impl_ValidPolygon.j0 k l0 (l0.length : Int) true) else ((impl_validPoints.f k l0).bind fun t338 => (impl_ValidPolygon.j0 k l0 (l0.length : Int) (!t338))))) = some r:=h
 clear h
 have HC2:=Aside0.mk H
 clear H
 go_enter Try.func56,Try.ntmps56
 go_upto_region 2 with (fail)
 go_cut [21] (fun v21 wc => ∃ (kq : Nat) (x21_1 : Bool),v21 = .bool x21_1 ∧ Aside0 (impl_ValidPolygon.j0 kq l0 (l0.length : Int) x21_1 = some r) ∧ Aside0 (kq ≤ k) ∧ Aside0 (Below w.heap.size w wc))
 case first =>
  have H:=HC2.out
  clear HC2
  by_cases c3 : (l0.length : Int) < 3
  ·rw [if_pos c3] at H
   have c3b0 : decide ((l0.length : Int) < 3) = true:=decide_eq_true c3
   have c3b1 : decide (l0.length < 3) = true:=decide_eq_true (by omega)
   clear c3
   (first | rw [c3b0] | (simp only [i64_w,i32_w];rw [c3b0]) | skip)
   have H':=Aside0.mk H
   clear H
   go_wp2
   go_meet
   case rel => exact ⟨_,(true),(by first | rfl | (simp;done) | (simp [*];done)),H',⟨by first | omega | exact Nat.le_refl _⟩,⟨ib⟩⟩
  ·rw [if_neg c3] at H
   have c3b0 : decide ((l0.length : Int) < 3) = false:=decide_eq_false c3
   have c3b1 : decide (l0.length < 3) = false:=decide_eq_false (by omega)
   clear c3
   (first | rw [c3b0] | (simp only [i64_w,i32_w];rw [c3b0]) | skip)
   by_cases c4 : (l0.length : Int) > 24
   ·rw [if_pos c4] at H
    have c4b0 : decide (24 < (l0.length : Int)) = true:=decide_eq_true c4
    have c4b1 : decide (24 < l0.length) = true:=decide_eq_true (by omega)
    clear c4
    have H':=Aside0.mk H
    clear H
    go_wp2
    go_meet
    case rel => exact ⟨_,(true),(by first | rfl | (simp;done) | (simp [*];done)),H',⟨by first | omega | exact Nat.le_refl _⟩,⟨ib⟩⟩
   ·rw [if_neg c4] at H
    have c4b0 : decide (24 < (l0.length : Int)) = false:=decide_eq_false c4
    have c4b1 : decide (24 < l0.length) = false:=decide_eq_false (by omega)
    clear c4
    replace H:=bE.mp H
    obtain ⟨t338,A50,H⟩:=H
    replace H : (impl_ValidPolygon.j0 k l0 (l0.length : Int) (!t338)) = some r:=H
    have A5:=Aside0.mk A50
    clear A50
    have H':=Aside0.mk H
    clear H
    go_wp2_with (first | (go_at_call 71;(with_reducible refine (impl_validPoints.calls k _ _ l0 t338 _ ?side1 ?side2 A5.out).mono ?_);(case side1 => exact cO ((Kd.C_below HR0.out HB.out)));(case side2 => exact HC0.out);rintro e w6 ⟨rfl,hb⟩;replace HB:=sb hb;(try clear hb);(try clear hb2);(try clear hk);(try clear hi)))
    go_meet
    case rel => exact ⟨_,(!t338),(by first | rfl | (simp;done) | (simp [*];done)),H',⟨by first | omega | exact Nat.le_refl _⟩,⟨ib⟩⟩
 case rest =>
  clear HC2
  try clear p2
  try clear c3
  try clear c3b0
  try clear c3b1
  try clear c4
  try clear c4b0
  try clear c4b1
  try clear c5
  obtain ⟨kq,x21_1,rfl,HA,HJ1,HB⟩:=hcut
  cases kq with
  | zero => exact absurd HA.out (by simp [impl_ValidPolygon.j0])
  | succ kj1 =>
   have H:=HA.out
   clear HA
   simp only [impl_ValidPolygon.j0] at H
   by_cases c7 : x21_1 = true
   ·subst c7
    have H1 : (some false) = some r:=by rw [if_pos rfl] at H;exact H
    clear H
    have H:=H1
    clear H1
    obtain rfl:=Option.some.inj H
    go_wp2
    go_ret
    exact ⟨by first | rfl | (simp [errW_none,errW_some] <;> rfl) | (simp [*,errW_none,errW_some] <;> rfl),ib⟩
   ·replace c7:=Bool.eq_false_iff.mpr c7
    subst c7
    have H1 : (impl_ValidPolygon.l0 kj1 l0 (l0.length : Int) (l0.length : Int) 0) = some r:=by rw [if_neg (show ¬ (false = true) by decide)] at H;exact H
    clear H
    have H:=H1
    clear H1
    have H':=Aside0.mk H
    clear H
    go_wp2
    go_loopg [24] kj1 (fun kq v24 w' => ∃ (x24_2 : Int),v24 = .int .i64 x24_2 ∧ Aside0 (impl_ValidPolygon.l0 kq l0 (l0.length : Int) (l0.length : Int) x24_2 = some r) ∧ Aside0 (kq ≤ kj1) ∧ Aside0 (Below w.heap.size w w'))
    case atStart => exact ⟨(0),(by first | rfl | (simp;done) | (simp [*];done)),H',⟨Nat.le_refl _⟩,⟨ib⟩⟩
    case round =>
     clear H'
     try clear p2
     try clear c3
     try clear c3b0
     try clear c3b1
     try clear c4
     try clear c4b0
     try clear c4b1
     try clear c5
     try clear c7
     try clear p2
     obtain ⟨x24_2,rfl,HA,HK2,HB⟩:=hrel
     cases gk with
     | zero => exact absurd HA.out (by simp [impl_ValidPolygon.l0])
     | succ k2 =>
      have H:=HA.out
      clear HA
      simp only [impl_ValidPolygon.l0] at H
      by_cases c8 : x24_2 < (l0.length : Int)
      ·rw [if_pos c8] at H
       have c8b0 : decide (x24_2 < (l0.length : Int)) = true:=decide_eq_true c8
       clear c8
       by_cases c9 : 0 ≤ x24_2
       ·rw [if_pos c9] at H
        have c9b0 : decide (0 ≤ x24_2) = true:=decide_eq_true c9
        clear c9
        by_cases c10 : x24_2 < (l0.length : Int)
        ·rw [if_pos c10] at H
         have c10b0 : decide (x24_2 < (l0.length : Int)) = true:=decide_eq_true c10
         clear c10
         by_cases c11 : (l0.length : Int) = 0
         ·rw [if_pos c11] at H
          exact absurd H (by simp)
         ·rw [if_neg c11] at H
          have c11b0 : ((l0.length : Int) == 0) = false:=beq_eq_false_iff_ne.mpr c11
          have c11b1 : ((l0.length : Int) != 0) = true:=bne_iff_ne.mpr c11
          have c11b2 : ¬ (l0 = []):=fun h_ => c11 (by rw [h_];rfl)
          obtain ⟨ji12,hji12⟩ : ∃ j_ : Int,(Int.tmod (wrap64 (x24_2 + 1)) (l0.length : Int)) = j_:=⟨_,rfl⟩
          replace H : (if 0 ≤ (ji12) then (if (ji12) < (l0.length : Int) then (if 0 ≤ (Int.tmod (wrap64 (x24_2 + 2)) (l0.length : Int)) then (if (Int.tmod (wrap64 (x24_2 + 2)) (l0.length : Int)) < (l0.length : Int) then (if (((rd_T78 l0 x24_2).f0) == ((rd_T78 l0 (ji12)).f0) && (((rd_T78 l0 x24_2).f1) == ((rd_T78 l0 (ji12)).f1))) = true then (impl_ValidPolygon.j2 k2 l0 (l0.length : Int) x24_2 (l0.length : Int) x24_2 true ((rd_T78 l0 x24_2).f0) ((rd_T78 l0 x24_2).f1) ((rd_T78 l0 (ji12)).f0) ((rd_T78 l0 (ji12)).f1)) else ((impl_on.f ((rd_T78 l0 x24_2).f0) ((rd_T78 l0 x24_2).f1) ((rd_T78 l0 (ji12)).f0) ((rd_T78 l0 (ji12)).f1) ((rd_T78 l0 (Int.tmod (wrap64 (x24_2 + 2)) (l0.length : Int))).f0) ((rd_T78 l0 (Int.tmod (wrap64 (x24_2 + 2)) (l0.length : Int))).f1)).bind fun t346 => (if t346 = true then (impl_ValidPolygon.j2 k2 l0 (l0.length : Int) x24_2 (l0.length : Int) x24_2 true ((rd_T78 l0 x24_2).f0) ((rd_T78 l0 x24_2).f1) ((rd_T78 l0 (ji12)).f0) ((rd_T78 l0 (ji12)).f1)) else ((impl_on.f ((rd_T78 l0 (ji12)).f0) ((rd_T78 l0 (ji12)).f1) ((rd_T78 l0 (Int.tmod (wrap64 (x24_2 + 2)) (l0.length : Int))).f0) ((rd_T78 l0 (Int.tmod (wrap64 (x24_2 + 2)) (l0.length : Int))).f1) ((rd_T78 l0 x24_2).f0) ((rd_T78 l0 x24_2).f1)).bind fun t347 => (impl_ValidPolygon.j2 k2 l0 (l0.length : Int) x24_2 (l0.length : Int) x24_2 t347 ((rd_T78 l0 x24_2).f0) ((rd_T78 l0 x24_2).f1) ((rd_T78 l0 (ji12)).f0) ((rd_T78 l0 (ji12)).f1)))))) else (none)) else (none)) else (none)) else (none)) = some r:=by first | (rw [hji12] at H;exact H) | (simp only [hji12] at H ⊢;exact H)
          by_cases c13 : 0 ≤ (ji12)
          ·rw [if_pos c13] at H
           have c13b0 : decide (0 ≤ (ji12)) = true:=decide_eq_true c13
           clear c13
           by_cases c14 : (ji12) < (l0.length : Int)
           ·rw [if_pos c14] at H
            have c14b0 : decide ((ji12) < (l0.length : Int)) = true:=decide_eq_true c14
            clear c14
            obtain ⟨ji15,hji15⟩ : ∃ j_ : Int,(Int.tmod (wrap64 (x24_2 + 2)) (l0.length : Int)) = j_:=⟨_,rfl⟩
            replace H : (if 0 ≤ (ji15) then (if (ji15) < (l0.length : Int) then (if (((rd_T78 l0 x24_2).f0) == ((rd_T78 l0 (ji12)).f0) && (((rd_T78 l0 x24_2).f1) == ((rd_T78 l0 (ji12)).f1))) = true then (impl_ValidPolygon.j2 k2 l0 (l0.length : Int) x24_2 (l0.length : Int) x24_2 true ((rd_T78 l0 x24_2).f0) ((rd_T78 l0 x24_2).f1) ((rd_T78 l0 (ji12)).f0) ((rd_T78 l0 (ji12)).f1)) else ((impl_on.f ((rd_T78 l0 x24_2).f0) ((rd_T78 l0 x24_2).f1) ((rd_T78 l0 (ji12)).f0) ((rd_T78 l0 (ji12)).f1) ((rd_T78 l0 (ji15)).f0) ((rd_T78 l0 (ji15)).f1)).bind fun t346 => (if t346 = true then (impl_ValidPolygon.j2 k2 l0 (l0.length : Int) x24_2 (l0.length : Int) x24_2 true ((rd_T78 l0 x24_2).f0) ((rd_T78 l0 x24_2).f1) ((rd_T78 l0 (ji12)).f0) ((rd_T78 l0 (ji12)).f1)) else ((impl_on.f ((rd_T78 l0 (ji12)).f0) ((rd_T78 l0 (ji12)).f1) ((rd_T78 l0 (ji15)).f0) ((rd_T78 l0 (ji15)).f1) ((rd_T78 l0 x24_2).f0) ((rd_T78 l0 x24_2).f1)).bind fun t347 => (impl_ValidPolygon.j2 k2 l0 (l0.length : Int) x24_2 (l0.length : Int) x24_2 t347 ((rd_T78 l0 x24_2).f0) ((rd_T78 l0 x24_2).f1) ((rd_T78 l0 (ji12)).f0) ((rd_T78 l0 (ji12)).f1)))))) else (none)) else (none)) = some r:=by first | (rw [hji15] at H;exact H) | (simp only [hji15] at H ⊢;exact H)
            by_cases c16 : 0 ≤ (ji15)
            ·rw [if_pos c16] at H
             have c16b0 : decide (0 ≤ (ji15)) = true:=decide_eq_true c16
             clear c16
             by_cases c17 : (ji15) < (l0.length : Int)
             ·rw [if_pos c17] at H
              have c17b0 : decide ((ji15) < (l0.length : Int)) = true:=decide_eq_true c17
              clear c17
              have HC18:=Aside0.mk H
              clear H
              try go_wp2
              replace HB:=Aside0.mk (below_drew1 HB.out)
              have p340 : 0 ≤ (x24_2 : Int):=da
              have q340 : x24_2 < (l0.length : Int):=da
              obtain ⟨ad340,e340,hx340_0,hx340_1⟩:=at_T78 HR0.out x24_2 p340 q340
              have hw340_1:=hx340_1
              have hw340_0:=hx340_0
              cases e340
              replace hx340_0:=cq HB.out hx340_0
              replace hx340_1:=cq HB.out hx340_1
              replace p340:=eq_true p340
              replace q340:=eq_true q340
              have p341 : 0 ≤ ((ji12) : Int):=da
              have q341 : (ji12) < (l0.length : Int):=da
              obtain ⟨ad341,e341,hx341_0,hx341_1⟩:=at_T78 HR0.out (ji12) p341 q341
              have hw341_1:=hx341_1
              have hw341_0:=hx341_0
              obtain rfl : ad340 = ad341:=(by injection e341)
              replace hx341_0:=cq HB.out hx341_0
              replace hx341_1:=cq HB.out hx341_1
              replace p341:=eq_true p341
              replace q341:=eq_true q341
              have p342 : 0 ≤ ((ji15) : Int):=da
              have q342 : (ji15) < (l0.length : Int):=da
              obtain ⟨ad342,e342,hx342_0,hx342_1⟩:=at_T78 HR0.out (ji15) p342 q342
              have hw342_1:=hx342_1
              have hw342_0:=hx342_0
              obtain rfl : ad340 = ad342:=(by injection e342)
              replace hx342_0:=cq HB.out hx342_0
              replace hx342_1:=cq HB.out hx342_1
              replace p342:=eq_true p342
              replace q342:=eq_true q342
              refine start_ (n:=24) (S:=fun w' => w'.cell? (ad340.add ((x24_2).toNat * 2)) = some (.int .i64 ((rd_T78 l0 x24_2).f0)) ∧ w'.cell? ⟨(ad340.add ((x24_2).toNat * 2)).block,(ad340.add ((x24_2).toNat * 2)).off + 1,none⟩ = some (.int .i64 ((rd_T78 l0 x24_2).f1)) ∧ w'.cell? (ad340.add (((ji12)).toNat * 2)) = some (.int .i64 ((rd_T78 l0 (ji12)).f0)) ∧ w'.cell? ⟨(ad340.add (((ji12)).toNat * 2)).block,(ad340.add (((ji12)).toNat * 2)).off + 1,none⟩ = some (.int .i64 ((rd_T78 l0 (ji12)).f1)) ∧ w'.cell? (ad340.add (((ji15)).toNat * 2)) = some (.int .i64 ((rd_T78 l0 (ji15)).f0)) ∧ w'.cell? ⟨(ad340.add (((ji15)).toNat * 2)).block,(ad340.add (((ji15)).toNat * 2)).off + 1,none⟩ = some (.int .i64 ((rd_T78 l0 (ji15)).f1))) (ds:=[]) #[fF,fF,fF,fF,fF,fF,fF,fF,fF,fF,fF,fF,fF,fF,fF,fF,fF,fF,fF,fF,fF,fF,fF,fF] (by kernel_rfl) rfl rfl ⟨cq HB.out hw340_0,cq HB.out hw340_1,cq HB.out hw341_0,cq HB.out hw341_1,cq HB.out hw342_0,cq HB.out hw342_1⟩ (fun hHeld => ?_);refine with_tabW impl_ValidPolygon.tab7 impl_ValidPolygon.bits7 (fun HT_ HW_ => ?_)
              generalize wr.drew = w19 at HB hx340_0 hx340_1 hx341_0 hx341_1 hx342_0 hx342_1 hHeld ⊢
              refine pu 0 27 HT_ ?_
              refine pu 1 28 HT_ ?_
              refine pu 2 29 HT_ ?_
              refine pu 4 31 HT_ ?_
              refine pu 5 32 HT_ ?_
              refine pu 6 33 HT_ ?_
              refine pu 7 34 HT_ ?_
              refine pu 8 35 HT_ ?_
              refine pu 9 36 HT_ ?_
              refine pu 11 38 HT_ ?_
              refine pu 12 39 HT_ ?_
              refine pu 13 40 HT_ ?_
              refine pu 14 41 HT_ ?_
              refine pu 15 42 HT_ ?_
              refine pu 16 43 HT_ ?_
              refine tk 3 30 HT_ HW_ hHeld ?_
              refine tk 10 37 HT_ HW_ hHeld ?_
              refine tk 17 44 HT_ HW_ hHeld ?_
              refine join_ (σ:=Nat × Nat × Nat) 3 #[tT,tT,tT,tT,tT,tT,tT,tT,tT,tT,tT,tT,tT,tT,tT,tT,tT,tT,tT,tT,tT,fF,fF,fF] (fun s_ => [(5,.pointer (some ⟨s_.1,0,none⟩)),(6,.pointer (some ⟨s_.2.1,0,none⟩)),(7,.pointer (some ⟨s_.2.2,0,none⟩))]) (fun s_ w' => (w'.cell? (ad340.add ((x24_2).toNat * 2)) = some (.int .i64 ((rd_T78 l0 x24_2).f0)) ∧ w'.cell? ⟨(ad340.add ((x24_2).toNat * 2)).block,(ad340.add ((x24_2).toNat * 2)).off + 1,none⟩ = some (.int .i64 ((rd_T78 l0 x24_2).f1)) ∧ w'.cell? (ad340.add (((ji12)).toNat * 2)) = some (.int .i64 ((rd_T78 l0 (ji12)).f0)) ∧ w'.cell? ⟨(ad340.add (((ji12)).toNat * 2)).block,(ad340.add (((ji12)).toNat * 2)).off + 1,none⟩ = some (.int .i64 ((rd_T78 l0 (ji12)).f1)) ∧ w'.cell? (ad340.add (((ji15)).toNat * 2)) = some (.int .i64 ((rd_T78 l0 (ji15)).f0)) ∧ w'.cell? ⟨(ad340.add (((ji15)).toNat * 2)).block,(ad340.add (((ji15)).toNat * 2)).off + 1,none⟩ = some (.int .i64 ((rd_T78 l0 (ji15)).f1))) ∧ (w'.heap[s_.1]? = some (.cells #[.int .i64 0,.int .i64 0] 78 (0,0))) ∧ (w'.heap[s_.2.1]? = some (.cells #[.int .i64 0,.int .i64 0] 78 (0,0))) ∧ (w'.heap[s_.2.2]? = some (.cells #[.int .i64 0,.int .i64 0] 78 (0,0))) ∧ (w.heap.size ≤ s_.1) ∧ (w.heap.size ≤ s_.1) ∧ (s_.2.1 ≠ s_.1) ∧ (s_.1 ≠ s_.2.1) ∧ (s_.2.2 ≠ s_.1) ∧ (s_.1 ≠ s_.2.2) ∧ (w.heap.size ≤ s_.2.1) ∧ (w.heap.size ≤ s_.2.1) ∧ (s_.2.2 ≠ s_.2.1) ∧ (s_.2.1 ≠ s_.2.2) ∧ (w.heap.size ≤ s_.2.2) ∧ (w.heap.size ≤ s_.2.2) ∧ (Below w.heap.size w w')) ?_ ?_
              rotate_left
              ·intro hJ18_19_20
               refine join_ (σ:=Nat × Nat) 4 #[tT,tT,tT,tT,tT,tT,tT,tT,tT,tT,tT,tT,tT,tT,tT,tT,tT,tT,tT,tT,fF,fF,fF,fF] (fun s_ => [(5,.pointer (some ⟨s_.1,0,none⟩)),(6,.pointer (some ⟨s_.2,0,none⟩))]) (fun s_ w' => (w'.cell? (ad340.add ((x24_2).toNat * 2)) = some (.int .i64 ((rd_T78 l0 x24_2).f0)) ∧ w'.cell? ⟨(ad340.add ((x24_2).toNat * 2)).block,(ad340.add ((x24_2).toNat * 2)).off + 1,none⟩ = some (.int .i64 ((rd_T78 l0 x24_2).f1)) ∧ w'.cell? (ad340.add (((ji12)).toNat * 2)) = some (.int .i64 ((rd_T78 l0 (ji12)).f0)) ∧ w'.cell? ⟨(ad340.add (((ji12)).toNat * 2)).block,(ad340.add (((ji12)).toNat * 2)).off + 1,none⟩ = some (.int .i64 ((rd_T78 l0 (ji12)).f1)) ∧ w'.cell? (ad340.add (((ji15)).toNat * 2)) = some (.int .i64 ((rd_T78 l0 (ji15)).f0)) ∧ w'.cell? ⟨(ad340.add (((ji15)).toNat * 2)).block,(ad340.add (((ji15)).toNat * 2)).off + 1,none⟩ = some (.int .i64 ((rd_T78 l0 (ji15)).f1))) ∧ (w'.heap[s_.1]? = some (.cells #[.int .i64 0,.int .i64 0] 78 (0,0))) ∧ (w'.heap[s_.2]? = some (.cells #[.int .i64 0,.int .i64 0] 78 (0,0))) ∧ (w.heap.size ≤ s_.1) ∧ (w.heap.size ≤ s_.1) ∧ (s_.2 ≠ s_.1) ∧ (s_.1 ≠ s_.2) ∧ (w.heap.size ≤ s_.2) ∧ (w.heap.size ≤ s_.2) ∧ (Below w.heap.size w w')) ?_ ?_
               rotate_left
               ·intro hJ18_19
                refine join_ (σ:=Nat × Nat) 4 #[tT,tT,tT,tT,tT,tT,tT,tT,tT,tT,tT,tT,tT,tT,tT,tT,tT,tT,tT,fF,tT,fF,fF,fF] (fun s_ => [(5,.pointer (some ⟨s_.1,0,none⟩)),(7,.pointer (some ⟨s_.2,0,none⟩))]) (fun s_ w' => (w'.cell? (ad340.add ((x24_2).toNat * 2)) = some (.int .i64 ((rd_T78 l0 x24_2).f0)) ∧ w'.cell? ⟨(ad340.add ((x24_2).toNat * 2)).block,(ad340.add ((x24_2).toNat * 2)).off + 1,none⟩ = some (.int .i64 ((rd_T78 l0 x24_2).f1)) ∧ w'.cell? (ad340.add (((ji12)).toNat * 2)) = some (.int .i64 ((rd_T78 l0 (ji12)).f0)) ∧ w'.cell? ⟨(ad340.add (((ji12)).toNat * 2)).block,(ad340.add (((ji12)).toNat * 2)).off + 1,none⟩ = some (.int .i64 ((rd_T78 l0 (ji12)).f1)) ∧ w'.cell? (ad340.add (((ji15)).toNat * 2)) = some (.int .i64 ((rd_T78 l0 (ji15)).f0)) ∧ w'.cell? ⟨(ad340.add (((ji15)).toNat * 2)).block,(ad340.add (((ji15)).toNat * 2)).off + 1,none⟩ = some (.int .i64 ((rd_T78 l0 (ji15)).f1))) ∧ (w'.heap[s_.1]? = some (.cells #[.int .i64 0,.int .i64 0] 78 (0,0))) ∧ (w'.heap[s_.2]? = some (.cells #[.int .i64 0,.int .i64 0] 78 (0,0))) ∧ (w.heap.size ≤ s_.1) ∧ (w.heap.size ≤ s_.1) ∧ (s_.2 ≠ s_.1) ∧ (s_.1 ≠ s_.2) ∧ (w.heap.size ≤ s_.2) ∧ (w.heap.size ≤ s_.2) ∧ (Below w.heap.size w w')) ?_ ?_
                rotate_left
                ·intro hJ18_20
                 refine join_ (σ:=Nat × Nat) 4 #[tT,tT,tT,tT,tT,tT,tT,tT,tT,tT,tT,tT,tT,tT,tT,tT,tT,tT,fF,tT,tT,fF,fF,fF] (fun s_ => [(6,.pointer (some ⟨s_.1,0,none⟩)),(7,.pointer (some ⟨s_.2,0,none⟩))]) (fun s_ w' => (w'.cell? (ad340.add ((x24_2).toNat * 2)) = some (.int .i64 ((rd_T78 l0 x24_2).f0)) ∧ w'.cell? ⟨(ad340.add ((x24_2).toNat * 2)).block,(ad340.add ((x24_2).toNat * 2)).off + 1,none⟩ = some (.int .i64 ((rd_T78 l0 x24_2).f1)) ∧ w'.cell? (ad340.add (((ji12)).toNat * 2)) = some (.int .i64 ((rd_T78 l0 (ji12)).f0)) ∧ w'.cell? ⟨(ad340.add (((ji12)).toNat * 2)).block,(ad340.add (((ji12)).toNat * 2)).off + 1,none⟩ = some (.int .i64 ((rd_T78 l0 (ji12)).f1)) ∧ w'.cell? (ad340.add (((ji15)).toNat * 2)) = some (.int .i64 ((rd_T78 l0 (ji15)).f0)) ∧ w'.cell? ⟨(ad340.add (((ji15)).toNat * 2)).block,(ad340.add (((ji15)).toNat * 2)).off + 1,none⟩ = some (.int .i64 ((rd_T78 l0 (ji15)).f1))) ∧ (w'.heap[s_.1]? = some (.cells #[.int .i64 0,.int .i64 0] 78 (0,0))) ∧ (w'.heap[s_.2]? = some (.cells #[.int .i64 0,.int .i64 0] 78 (0,0))) ∧ (w.heap.size ≤ s_.1) ∧ (w.heap.size ≤ s_.1) ∧ (s_.2 ≠ s_.1) ∧ (s_.1 ≠ s_.2) ∧ (w.heap.size ≤ s_.2) ∧ (w.heap.size ≤ s_.2) ∧ (Below w.heap.size w w')) ?_ ?_
                 rotate_left
                 ·intro hJ19_20
                  refine join_ (σ:=Nat) 5 #[tT,tT,tT,tT,tT,tT,tT,tT,tT,tT,tT,tT,tT,tT,tT,tT,tT,tT,tT,fF,fF,fF,fF,fF] (fun s_ => [(5,.pointer (some ⟨s_,0,none⟩))]) (fun s_ w' => (w'.cell? (ad340.add ((x24_2).toNat * 2)) = some (.int .i64 ((rd_T78 l0 x24_2).f0)) ∧ w'.cell? ⟨(ad340.add ((x24_2).toNat * 2)).block,(ad340.add ((x24_2).toNat * 2)).off + 1,none⟩ = some (.int .i64 ((rd_T78 l0 x24_2).f1)) ∧ w'.cell? (ad340.add (((ji12)).toNat * 2)) = some (.int .i64 ((rd_T78 l0 (ji12)).f0)) ∧ w'.cell? ⟨(ad340.add (((ji12)).toNat * 2)).block,(ad340.add (((ji12)).toNat * 2)).off + 1,none⟩ = some (.int .i64 ((rd_T78 l0 (ji12)).f1)) ∧ w'.cell? (ad340.add (((ji15)).toNat * 2)) = some (.int .i64 ((rd_T78 l0 (ji15)).f0)) ∧ w'.cell? ⟨(ad340.add (((ji15)).toNat * 2)).block,(ad340.add (((ji15)).toNat * 2)).off + 1,none⟩ = some (.int .i64 ((rd_T78 l0 (ji15)).f1))) ∧ (w'.heap[s_]? = some (.cells #[.int .i64 0,.int .i64 0] 78 (0,0))) ∧ (w.heap.size ≤ s_) ∧ (w.heap.size ≤ s_) ∧ (Below w.heap.size w w')) ?_ ?_
                  rotate_left
                  ·intro hJ18
                   refine join_ (σ:=Nat) 5 #[tT,tT,tT,tT,tT,tT,tT,tT,tT,tT,tT,tT,tT,tT,tT,tT,tT,tT,fF,tT,fF,fF,fF,fF] (fun s_ => [(6,.pointer (some ⟨s_,0,none⟩))]) (fun s_ w' => (w'.cell? (ad340.add ((x24_2).toNat * 2)) = some (.int .i64 ((rd_T78 l0 x24_2).f0)) ∧ w'.cell? ⟨(ad340.add ((x24_2).toNat * 2)).block,(ad340.add ((x24_2).toNat * 2)).off + 1,none⟩ = some (.int .i64 ((rd_T78 l0 x24_2).f1)) ∧ w'.cell? (ad340.add (((ji12)).toNat * 2)) = some (.int .i64 ((rd_T78 l0 (ji12)).f0)) ∧ w'.cell? ⟨(ad340.add (((ji12)).toNat * 2)).block,(ad340.add (((ji12)).toNat * 2)).off + 1,none⟩ = some (.int .i64 ((rd_T78 l0 (ji12)).f1)) ∧ w'.cell? (ad340.add (((ji15)).toNat * 2)) = some (.int .i64 ((rd_T78 l0 (ji15)).f0)) ∧ w'.cell? ⟨(ad340.add (((ji15)).toNat * 2)).block,(ad340.add (((ji15)).toNat * 2)).off + 1,none⟩ = some (.int .i64 ((rd_T78 l0 (ji15)).f1))) ∧ (w'.heap[s_]? = some (.cells #[.int .i64 0,.int .i64 0] 78 (0,0))) ∧ (w.heap.size ≤ s_) ∧ (w.heap.size ≤ s_) ∧ (Below w.heap.size w w')) ?_ ?_
                   rotate_left
                   ·intro hJ19
                    refine join_ (σ:=Nat) 5 #[tT,tT,tT,tT,tT,tT,tT,tT,tT,tT,tT,tT,tT,tT,tT,tT,tT,tT,fF,fF,tT,fF,fF,fF] (fun s_ => [(7,.pointer (some ⟨s_,0,none⟩))]) (fun s_ w' => (w'.cell? (ad340.add ((x24_2).toNat * 2)) = some (.int .i64 ((rd_T78 l0 x24_2).f0)) ∧ w'.cell? ⟨(ad340.add ((x24_2).toNat * 2)).block,(ad340.add ((x24_2).toNat * 2)).off + 1,none⟩ = some (.int .i64 ((rd_T78 l0 x24_2).f1)) ∧ w'.cell? (ad340.add (((ji12)).toNat * 2)) = some (.int .i64 ((rd_T78 l0 (ji12)).f0)) ∧ w'.cell? ⟨(ad340.add (((ji12)).toNat * 2)).block,(ad340.add (((ji12)).toNat * 2)).off + 1,none⟩ = some (.int .i64 ((rd_T78 l0 (ji12)).f1)) ∧ w'.cell? (ad340.add (((ji15)).toNat * 2)) = some (.int .i64 ((rd_T78 l0 (ji15)).f0)) ∧ w'.cell? ⟨(ad340.add (((ji15)).toNat * 2)).block,(ad340.add (((ji15)).toNat * 2)).off + 1,none⟩ = some (.int .i64 ((rd_T78 l0 (ji15)).f1))) ∧ (w'.heap[s_]? = some (.cells #[.int .i64 0,.int .i64 0] 78 (0,0))) ∧ (w.heap.size ≤ s_) ∧ (w.heap.size ≤ s_) ∧ (Below w.heap.size w w')) ?_ ?_
                    rotate_left
                    ·intro hJ20
                     refine three_ (i:=18) (j:=19) (k:=20) (Ni:=some 5) (Nj:=some 6) (Nk:=some 7) #[tT,tT,tT,tT,tT,tT,tT,tT,tT,tT,tT,tT,tT,tT,tT,tT,tT,tT,tT,fF,fF,fF,fF,fF] #[tT,tT,tT,tT,tT,tT,tT,tT,tT,tT,tT,tT,tT,tT,tT,tT,tT,tT,fF,tT,fF,fF,fF,fF] #[tT,tT,tT,tT,tT,tT,tT,tT,tT,tT,tT,tT,tT,tT,tT,tT,tT,tT,fF,fF,tT,fF,fF,fF] rfl rfl rfl rfl rfl rfl (three_of HT_.out (by kernel_rfl)) (by decide) (by decide) (by decide) (fun K hK => ?_) (fun K hK => ?_) (fun K hK => ?_)
                     ·skip
                      refine box_step ?hg (N:=5) ?hd (cs:=#[.int .i64 0,.int .i64 0]) (t:=78) ?hr ?_;(case hd => rfl);(case hg => rfl);(case hr => first | (go_simp;done) | (go_simp;rfl))
                      intro gb343 hg w20 hbox hb
                      have BK343:=Aside0.mk (hbox)
                      have GW343:=zb hg
                      have GE343:=zb hg
                      replace HB:=sb hb
                      clear hb hbox hg
                      refine hK.out _ _ ⟨cq HB.out hw340_0,cq HB.out hw340_1,cq HB.out hw341_0,cq HB.out hw341_1,cq HB.out hw342_0,cq HB.out hw342_1⟩ (fun hHeld => ?_)
                      clear hK K
                      refine norm_ (a':=?_) ?_ ?_
                      rotate_left
                      ·show Act.put _ (some 5) _ = _
                       simp only [Act.put,iT,sZ,sC,i64_w,i32_w]
                       rfl
                      exact norm_ (by first | (simp only [putAll,Act.put,iT,sZ,sC];done) | (simp only [putAll,Act.put,iT,sZ,sC];rfl)) (hJ18 (gb343) _ ⟨hHeld,(bk BK343),GW343.out,GE343.out,ib⟩)
                     ·skip
                      refine box_step ?hg (N:=6) ?hd (cs:=#[.int .i64 0,.int .i64 0]) (t:=78) ?hr ?_;(case hd => rfl);(case hg => rfl);(case hr => first | (go_simp;done) | (go_simp;rfl))
                      intro gb344 hg w20 hbox hb
                      have BK344:=Aside0.mk (hbox)
                      have GW344:=zb hg
                      have GE344:=zb hg
                      replace HB:=sb hb
                      clear hb hbox hg
                      refine hK.out _ _ ⟨cq HB.out hw340_0,cq HB.out hw340_1,cq HB.out hw341_0,cq HB.out hw341_1,cq HB.out hw342_0,cq HB.out hw342_1⟩ (fun hHeld => ?_)
                      clear hK K
                      refine norm_ (a':=?_) ?_ ?_
                      rotate_left
                      ·show Act.put _ (some 6) _ = _
                       simp only [Act.put,iT,sZ,sC,i64_w,i32_w]
                       rfl
                      exact norm_ (by first | (simp only [putAll,Act.put,iT,sZ,sC];done) | (simp only [putAll,Act.put,iT,sZ,sC];rfl)) (hJ19 (gb344) _ ⟨hHeld,(bk BK344),GW344.out,GE344.out,ib⟩)
                     ·skip
                      refine box_step ?hg (N:=7) ?hd (cs:=#[.int .i64 0,.int .i64 0]) (t:=78) ?hr ?_;(case hd => rfl);(case hg => rfl);(case hr => first | (go_simp;done) | (go_simp;rfl))
                      intro gb345 hg w20 hbox hb
                      have BK345:=Aside0.mk (hbox)
                      have GW345:=zb hg
                      have GE345:=zb hg
                      replace HB:=sb hb
                      clear hb hbox hg
                      refine hK.out _ _ ⟨cq HB.out hw340_0,cq HB.out hw340_1,cq HB.out hw341_0,cq HB.out hw341_1,cq HB.out hw342_0,cq HB.out hw342_1⟩ (fun hHeld => ?_)
                      clear hK K
                      refine norm_ (a':=?_) ?_ ?_
                      rotate_left
                      ·show Act.put _ (some 7) _ = _
                       simp only [Act.put,iT,sZ,sC,i64_w,i32_w]
                       rfl
                      exact norm_ (by first | (simp only [putAll,Act.put,iT,sZ,sC];done) | (simp only [putAll,Act.put,iT,sZ,sC];rfl)) (hJ20 (gb345) _ ⟨hHeld,(bk BK345),GW345.out,GE345.out,ib⟩)
                    ·skip
                     rintro gb345 w21 ⟨hS_,h0_,h1_,h2_,h3_⟩
                     have n0_ : Aside0 (w21.heap[gb345]? = some (.cells #[.int .i64 0,.int .i64 0] 78 (0,0))):=⟨h0_⟩
                     have n1_ : Aside0 (w.heap.size ≤ gb345):=⟨h1_⟩
                     have n2_ : Aside0 (w.heap.size ≤ gb345):=⟨h2_⟩
                     have n3_ : Aside0 (Below w.heap.size w w21):=⟨h3_⟩
                     clear HB
                     clear h0_ h1_ h2_ h3_
                     have BK345:=n0_
                     have GW345:=n1_
                     have GE345:=n2_
                     have HB:=n3_
                     clear n0_ n1_ n2_ n3_
                     have hHeld : w21.cell? (ad340.add ((x24_2).toNat * 2)) = some (.int .i64 ((rd_T78 l0 x24_2).f0)) ∧ w21.cell? ⟨(ad340.add ((x24_2).toNat * 2)).block,(ad340.add ((x24_2).toNat * 2)).off + 1,none⟩ = some (.int .i64 ((rd_T78 l0 x24_2).f1)) ∧ w21.cell? (ad340.add (((ji12)).toNat * 2)) = some (.int .i64 ((rd_T78 l0 (ji12)).f0)) ∧ w21.cell? ⟨(ad340.add (((ji12)).toNat * 2)).block,(ad340.add (((ji12)).toNat * 2)).off + 1,none⟩ = some (.int .i64 ((rd_T78 l0 (ji12)).f1)) ∧ w21.cell? (ad340.add (((ji15)).toNat * 2)) = some (.int .i64 ((rd_T78 l0 (ji15)).f0)) ∧ w21.cell? ⟨(ad340.add (((ji15)).toNat * 2)).block,(ad340.add (((ji15)).toNat * 2)).off + 1,none⟩ = some (.int .i64 ((rd_T78 l0 (ji15)).f1)):=hS_
                     refine norm_ (a':=?_) ?_ ?_
                     rotate_left
                     ·simp only [putAll,Act.put,iT,sZ,sC]
                      rfl
                     refine two_ (i:=18) (j:=19) (Ni:=some 5) (Nj:=some 6) #[tT,tT,tT,tT,tT,tT,tT,tT,tT,tT,tT,tT,tT,tT,tT,tT,tT,tT,tT,fF,tT,fF,fF,fF] #[tT,tT,tT,tT,tT,tT,tT,tT,tT,tT,tT,tT,tT,tT,tT,tT,tT,tT,fF,tT,tT,fF,fF,fF] rfl rfl rfl rfl (two_of HT_.out (by kernel_rfl)) (by decide) (by decide) (fun K hK => ?_) (fun K hK => ?_)
                     ·skip
                      refine box_step ?hg (N:=5) ?hd (cs:=#[.int .i64 0,.int .i64 0]) (t:=78) ?hr ?_;(case hd => rfl);(case hg => rfl);(case hr => first | (go_simp;done) | (go_simp;rfl))
                      intro gb343 hg w22 hbox hb
                      have BK343:=Aside0.mk (hbox)
                      have GW343:=zb hg
                      have GE343:=zb hg
                      replace HB:=sb hb
                      have NB345_343:=nl BK345 hg
                      have NB343_345:=ng BK345 hg
                      replace BK345:=kb BK345 hb
                      clear hb hbox hg
                      refine hK.out _ _ ⟨cq HB.out hw340_0,cq HB.out hw340_1,cq HB.out hw341_0,cq HB.out hw341_1,cq HB.out hw342_0,cq HB.out hw342_1⟩ (fun hHeld => ?_)
                      clear hK K
                      refine norm_ (a':=?_) ?_ ?_
                      rotate_left
                      ·show Act.put _ (some 5) _ = _
                       simp only [Act.put,iT,sZ,sC,i64_w,i32_w]
                       rfl
                      exact norm_ (by first | (simp only [putAll,Act.put,iT,sZ,sC];done) | (simp only [putAll,Act.put,iT,sZ,sC];rfl)) (hJ18_20 (gb343,gb345) _ ⟨hHeld,(bk BK343),(bk BK345),GW343.out,GE343.out,NB345_343.out,NB343_345.out,GW345.out,GE345.out,ib⟩)
                     ·skip
                      refine box_step ?hg (N:=6) ?hd (cs:=#[.int .i64 0,.int .i64 0]) (t:=78) ?hr ?_;(case hd => rfl);(case hg => rfl);(case hr => first | (go_simp;done) | (go_simp;rfl))
                      intro gb344 hg w22 hbox hb
                      have BK344:=Aside0.mk (hbox)
                      have GW344:=zb hg
                      have GE344:=zb hg
                      replace HB:=sb hb
                      have NB345_344:=nl BK345 hg
                      have NB344_345:=ng BK345 hg
                      replace BK345:=kb BK345 hb
                      clear hb hbox hg
                      refine hK.out _ _ ⟨cq HB.out hw340_0,cq HB.out hw340_1,cq HB.out hw341_0,cq HB.out hw341_1,cq HB.out hw342_0,cq HB.out hw342_1⟩ (fun hHeld => ?_)
                      clear hK K
                      refine norm_ (a':=?_) ?_ ?_
                      rotate_left
                      ·show Act.put _ (some 6) _ = _
                       simp only [Act.put,iT,sZ,sC,i64_w,i32_w]
                       rfl
                      exact norm_ (by first | (simp only [putAll,Act.put,iT,sZ,sC];done) | (simp only [putAll,Act.put,iT,sZ,sC];rfl)) (hJ19_20 (gb344,gb345) _ ⟨hHeld,(bk BK344),(bk BK345),GW344.out,GE344.out,NB345_344.out,NB344_345.out,GW345.out,GE345.out,ib⟩)
                   ·skip
                    rintro gb344 w21 ⟨hS_,h0_,h1_,h2_,h3_⟩
                    have n0_ : Aside0 (w21.heap[gb344]? = some (.cells #[.int .i64 0,.int .i64 0] 78 (0,0))):=⟨h0_⟩
                    have n1_ : Aside0 (w.heap.size ≤ gb344):=⟨h1_⟩
                    have n2_ : Aside0 (w.heap.size ≤ gb344):=⟨h2_⟩
                    have n3_ : Aside0 (Below w.heap.size w w21):=⟨h3_⟩
                    clear HB
                    clear h0_ h1_ h2_ h3_
                    have BK344:=n0_
                    have GW344:=n1_
                    have GE344:=n2_
                    have HB:=n3_
                    clear n0_ n1_ n2_ n3_
                    have hHeld : w21.cell? (ad340.add ((x24_2).toNat * 2)) = some (.int .i64 ((rd_T78 l0 x24_2).f0)) ∧ w21.cell? ⟨(ad340.add ((x24_2).toNat * 2)).block,(ad340.add ((x24_2).toNat * 2)).off + 1,none⟩ = some (.int .i64 ((rd_T78 l0 x24_2).f1)) ∧ w21.cell? (ad340.add (((ji12)).toNat * 2)) = some (.int .i64 ((rd_T78 l0 (ji12)).f0)) ∧ w21.cell? ⟨(ad340.add (((ji12)).toNat * 2)).block,(ad340.add (((ji12)).toNat * 2)).off + 1,none⟩ = some (.int .i64 ((rd_T78 l0 (ji12)).f1)) ∧ w21.cell? (ad340.add (((ji15)).toNat * 2)) = some (.int .i64 ((rd_T78 l0 (ji15)).f0)) ∧ w21.cell? ⟨(ad340.add (((ji15)).toNat * 2)).block,(ad340.add (((ji15)).toNat * 2)).off + 1,none⟩ = some (.int .i64 ((rd_T78 l0 (ji15)).f1)):=hS_
                    refine norm_ (a':=?_) ?_ ?_
                    rotate_left
                    ·simp only [putAll,Act.put,iT,sZ,sC]
                     rfl
                    refine two_ (i:=18) (j:=20) (Ni:=some 5) (Nj:=some 7) #[tT,tT,tT,tT,tT,tT,tT,tT,tT,tT,tT,tT,tT,tT,tT,tT,tT,tT,tT,tT,fF,fF,fF,fF] #[tT,tT,tT,tT,tT,tT,tT,tT,tT,tT,tT,tT,tT,tT,tT,tT,tT,tT,fF,tT,tT,fF,fF,fF] rfl rfl rfl rfl (two_of HT_.out (by kernel_rfl)) (by decide) (by decide) (fun K hK => ?_) (fun K hK => ?_)
                    ·skip
                     refine box_step ?hg (N:=5) ?hd (cs:=#[.int .i64 0,.int .i64 0]) (t:=78) ?hr ?_;(case hd => rfl);(case hg => rfl);(case hr => first | (go_simp;done) | (go_simp;rfl))
                     intro gb343 hg w22 hbox hb
                     have BK343:=Aside0.mk (hbox)
                     have GW343:=zb hg
                     have GE343:=zb hg
                     replace HB:=sb hb
                     have NB344_343:=nl BK344 hg
                     have NB343_344:=ng BK344 hg
                     replace BK344:=kb BK344 hb
                     clear hb hbox hg
                     refine hK.out _ _ ⟨cq HB.out hw340_0,cq HB.out hw340_1,cq HB.out hw341_0,cq HB.out hw341_1,cq HB.out hw342_0,cq HB.out hw342_1⟩ (fun hHeld => ?_)
                     clear hK K
                     refine norm_ (a':=?_) ?_ ?_
                     rotate_left
                     ·show Act.put _ (some 5) _ = _
                      simp only [Act.put,iT,sZ,sC,i64_w,i32_w]
                      rfl
                     exact norm_ (by first | (simp only [putAll,Act.put,iT,sZ,sC];done) | (simp only [putAll,Act.put,iT,sZ,sC];rfl)) (hJ18_19 (gb343,gb344) _ ⟨hHeld,(bk BK343),(bk BK344),GW343.out,GE343.out,NB344_343.out,NB343_344.out,GW344.out,GE344.out,ib⟩)
                    ·skip
                     refine box_step ?hg (N:=7) ?hd (cs:=#[.int .i64 0,.int .i64 0]) (t:=78) ?hr ?_;(case hd => rfl);(case hg => rfl);(case hr => first | (go_simp;done) | (go_simp;rfl))
                     intro gb345 hg w22 hbox hb
                     have BK345:=Aside0.mk (hbox)
                     have GW345:=zb hg
                     have GE345:=zb hg
                     replace HB:=sb hb
                     have NB344_345:=nl BK344 hg
                     have NB345_344:=ng BK344 hg
                     replace BK344:=kb BK344 hb
                     clear hb hbox hg
                     refine hK.out _ _ ⟨cq HB.out hw340_0,cq HB.out hw340_1,cq HB.out hw341_0,cq HB.out hw341_1,cq HB.out hw342_0,cq HB.out hw342_1⟩ (fun hHeld => ?_)
                     clear hK K
                     refine norm_ (a':=?_) ?_ ?_
                     rotate_left
                     ·show Act.put _ (some 7) _ = _
                      simp only [Act.put,iT,sZ,sC,i64_w,i32_w]
                      rfl
                     exact norm_ (by first | (simp only [putAll,Act.put,iT,sZ,sC];done) | (simp only [putAll,Act.put,iT,sZ,sC];rfl)) (hJ19_20 (gb344,gb345) _ ⟨hHeld,(bk BK344),(bk BK345),GW344.out,GE344.out,NB345_344.out,NB344_345.out,GW345.out,GE345.out,ib⟩)
                  ·skip
                   rintro gb343 w21 ⟨hS_,h0_,h1_,h2_,h3_⟩
                   have n0_ : Aside0 (w21.heap[gb343]? = some (.cells #[.int .i64 0,.int .i64 0] 78 (0,0))):=⟨h0_⟩
                   have n1_ : Aside0 (w.heap.size ≤ gb343):=⟨h1_⟩
                   have n2_ : Aside0 (w.heap.size ≤ gb343):=⟨h2_⟩
                   have n3_ : Aside0 (Below w.heap.size w w21):=⟨h3_⟩
                   clear HB
                   clear h0_ h1_ h2_ h3_
                   have BK343:=n0_
                   have GW343:=n1_
                   have GE343:=n2_
                   have HB:=n3_
                   clear n0_ n1_ n2_ n3_
                   have hHeld : w21.cell? (ad340.add ((x24_2).toNat * 2)) = some (.int .i64 ((rd_T78 l0 x24_2).f0)) ∧ w21.cell? ⟨(ad340.add ((x24_2).toNat * 2)).block,(ad340.add ((x24_2).toNat * 2)).off + 1,none⟩ = some (.int .i64 ((rd_T78 l0 x24_2).f1)) ∧ w21.cell? (ad340.add (((ji12)).toNat * 2)) = some (.int .i64 ((rd_T78 l0 (ji12)).f0)) ∧ w21.cell? ⟨(ad340.add (((ji12)).toNat * 2)).block,(ad340.add (((ji12)).toNat * 2)).off + 1,none⟩ = some (.int .i64 ((rd_T78 l0 (ji12)).f1)) ∧ w21.cell? (ad340.add (((ji15)).toNat * 2)) = some (.int .i64 ((rd_T78 l0 (ji15)).f0)) ∧ w21.cell? ⟨(ad340.add (((ji15)).toNat * 2)).block,(ad340.add (((ji15)).toNat * 2)).off + 1,none⟩ = some (.int .i64 ((rd_T78 l0 (ji15)).f1)):=hS_
                   refine norm_ (a':=?_) ?_ ?_
                   rotate_left
                   ·simp only [putAll,Act.put,iT,sZ,sC]
                    rfl
                   refine two_ (i:=19) (j:=20) (Ni:=some 6) (Nj:=some 7) #[tT,tT,tT,tT,tT,tT,tT,tT,tT,tT,tT,tT,tT,tT,tT,tT,tT,tT,tT,tT,fF,fF,fF,fF] #[tT,tT,tT,tT,tT,tT,tT,tT,tT,tT,tT,tT,tT,tT,tT,tT,tT,tT,tT,fF,tT,fF,fF,fF] rfl rfl rfl rfl (two_of HT_.out (by kernel_rfl)) (by decide) (by decide) (fun K hK => ?_) (fun K hK => ?_)
                   ·skip
                    refine box_step ?hg (N:=6) ?hd (cs:=#[.int .i64 0,.int .i64 0]) (t:=78) ?hr ?_;(case hd => rfl);(case hg => rfl);(case hr => first | (go_simp;done) | (go_simp;rfl))
                    intro gb344 hg w22 hbox hb
                    have BK344:=Aside0.mk (hbox)
                    have GW344:=zb hg
                    have GE344:=zb hg
                    replace HB:=sb hb
                    have NB343_344:=nl BK343 hg
                    have NB344_343:=ng BK343 hg
                    replace BK343:=kb BK343 hb
                    clear hb hbox hg
                    refine hK.out _ _ ⟨cq HB.out hw340_0,cq HB.out hw340_1,cq HB.out hw341_0,cq HB.out hw341_1,cq HB.out hw342_0,cq HB.out hw342_1⟩ (fun hHeld => ?_)
                    clear hK K
                    refine norm_ (a':=?_) ?_ ?_
                    rotate_left
                    ·show Act.put _ (some 6) _ = _
                     simp only [Act.put,iT,sZ,sC,i64_w,i32_w]
                     rfl
                    exact norm_ (by first | (simp only [putAll,Act.put,iT,sZ,sC];done) | (simp only [putAll,Act.put,iT,sZ,sC];rfl)) (hJ18_19 (gb343,gb344) _ ⟨hHeld,(bk BK343),(bk BK344),GW343.out,GE343.out,NB344_343.out,NB343_344.out,GW344.out,GE344.out,ib⟩)
                   ·skip
                    refine box_step ?hg (N:=7) ?hd (cs:=#[.int .i64 0,.int .i64 0]) (t:=78) ?hr ?_;(case hd => rfl);(case hg => rfl);(case hr => first | (go_simp;done) | (go_simp;rfl))
                    intro gb345 hg w22 hbox hb
                    have BK345:=Aside0.mk (hbox)
                    have GW345:=zb hg
                    have GE345:=zb hg
                    replace HB:=sb hb
                    have NB343_345:=nl BK343 hg
                    have NB345_343:=ng BK343 hg
                    replace BK343:=kb BK343 hb
                    clear hb hbox hg
                    refine hK.out _ _ ⟨cq HB.out hw340_0,cq HB.out hw340_1,cq HB.out hw341_0,cq HB.out hw341_1,cq HB.out hw342_0,cq HB.out hw342_1⟩ (fun hHeld => ?_)
                    clear hK K
                    refine norm_ (a':=?_) ?_ ?_
                    rotate_left
                    ·show Act.put _ (some 7) _ = _
                     simp only [Act.put,iT,sZ,sC,i64_w,i32_w]
                     rfl
                    exact norm_ (by first | (simp only [putAll,Act.put,iT,sZ,sC];done) | (simp only [putAll,Act.put,iT,sZ,sC];rfl)) (hJ18_20 (gb343,gb345) _ ⟨hHeld,(bk BK343),(bk BK345),GW343.out,GE343.out,NB345_343.out,NB343_345.out,GW345.out,GE345.out,ib⟩)
                 ·skip
                  rintro ⟨gb344,gb345⟩ w22 ⟨hS_,h0_,h1_,h2_,h3_,h4_,h5_,h6_,h7_,h8_⟩
                  have n0_ : Aside0 (w22.heap[gb344]? = some (.cells #[.int .i64 0,.int .i64 0] 78 (0,0))):=⟨h0_⟩
                  have n1_ : Aside0 (w22.heap[gb345]? = some (.cells #[.int .i64 0,.int .i64 0] 78 (0,0))):=⟨h1_⟩
                  have n2_ : Aside0 (w.heap.size ≤ gb344):=⟨h2_⟩
                  have n3_ : Aside0 (w.heap.size ≤ gb344):=⟨h3_⟩
                  have n4_ : Aside0 (gb345 ≠ gb344):=⟨h4_⟩
                  have n5_ : Aside0 (gb344 ≠ gb345):=⟨h5_⟩
                  have n6_ : Aside0 (w.heap.size ≤ gb345):=⟨h6_⟩
                  have n7_ : Aside0 (w.heap.size ≤ gb345):=⟨h7_⟩
                  have n8_ : Aside0 (Below w.heap.size w w22):=⟨h8_⟩
                  clear HB
                  clear h0_ h1_ h2_ h3_ h4_ h5_ h6_ h7_ h8_
                  have BK344:=n0_
                  have BK345:=n1_
                  have GW344:=n2_
                  have GE344:=n3_
                  have NB345_344:=n4_
                  have NB344_345:=n5_
                  have GW345:=n6_
                  have GE345:=n7_
                  have HB:=n8_
                  clear n0_ n1_ n2_ n3_ n4_ n5_ n6_ n7_ n8_
                  have hHeld : w22.cell? (ad340.add ((x24_2).toNat * 2)) = some (.int .i64 ((rd_T78 l0 x24_2).f0)) ∧ w22.cell? ⟨(ad340.add ((x24_2).toNat * 2)).block,(ad340.add ((x24_2).toNat * 2)).off + 1,none⟩ = some (.int .i64 ((rd_T78 l0 x24_2).f1)) ∧ w22.cell? (ad340.add (((ji12)).toNat * 2)) = some (.int .i64 ((rd_T78 l0 (ji12)).f0)) ∧ w22.cell? ⟨(ad340.add (((ji12)).toNat * 2)).block,(ad340.add (((ji12)).toNat * 2)).off + 1,none⟩ = some (.int .i64 ((rd_T78 l0 (ji12)).f1)) ∧ w22.cell? (ad340.add (((ji15)).toNat * 2)) = some (.int .i64 ((rd_T78 l0 (ji15)).f0)) ∧ w22.cell? ⟨(ad340.add (((ji15)).toNat * 2)).block,(ad340.add (((ji15)).toNat * 2)).off + 1,none⟩ = some (.int .i64 ((rd_T78 l0 (ji15)).f1)):=hS_
                  refine norm_ (a':=?_) ?_ ?_
                  rotate_left
                  ·simp only [putAll,Act.put,iT,sZ,sC]
                   rfl
                  refine on 18 5 HT_ (fun K hK => ?_)
                  refine box_step ?hg (N:=5) ?hd (cs:=#[.int .i64 0,.int .i64 0]) (t:=78) ?hr ?_;(case hd => rfl);(case hg => rfl);(case hr => first | (go_simp;done) | (go_simp;rfl))
                  intro gb343 hg w23 hbox hb
                  have BK343:=Aside0.mk (hbox)
                  have GW343:=zb hg
                  have GE343:=zb hg
                  replace HB:=sb hb
                  have NB344_343:=nl BK344 hg
                  have NB343_344:=ng BK344 hg
                  replace BK344:=kb BK344 hb
                  have NB345_343:=nl BK345 hg
                  have NB343_345:=ng BK345 hg
                  replace BK345:=kb BK345 hb
                  clear hb hbox hg
                  refine hK.out _ _ ⟨cq HB.out hw340_0,cq HB.out hw340_1,cq HB.out hw341_0,cq HB.out hw341_1,cq HB.out hw342_0,cq HB.out hw342_1⟩ (fun hHeld => ?_)
                  clear hK K
                  refine norm_ (a':=?_) ?_ ?_
                  rotate_left
                  ·show Act.put _ (some 5) _ = _
                   simp only [Act.put,iT,sZ,sC,i64_w,i32_w]
                   rfl
                  exact norm_ (by first | (simp only [putAll,Act.put,iT,sZ,sC];done) | (simp only [putAll,Act.put,iT,sZ,sC];rfl)) (hJ18_19_20 (gb343,gb344,gb345) _ ⟨hHeld,(bk BK343),(bk BK344),(bk BK345),GW343.out,GE343.out,NB344_343.out,NB343_344.out,NB345_343.out,NB343_345.out,GW344.out,GE344.out,NB345_344.out,NB344_345.out,GW345.out,GE345.out,ib⟩)
                ·skip
                 rintro ⟨gb343,gb345⟩ w22 ⟨hS_,h0_,h1_,h2_,h3_,h4_,h5_,h6_,h7_,h8_⟩
                 have n0_ : Aside0 (w22.heap[gb343]? = some (.cells #[.int .i64 0,.int .i64 0] 78 (0,0))):=⟨h0_⟩
                 have n1_ : Aside0 (w22.heap[gb345]? = some (.cells #[.int .i64 0,.int .i64 0] 78 (0,0))):=⟨h1_⟩
                 have n2_ : Aside0 (w.heap.size ≤ gb343):=⟨h2_⟩
                 have n3_ : Aside0 (w.heap.size ≤ gb343):=⟨h3_⟩
                 have n4_ : Aside0 (gb345 ≠ gb343):=⟨h4_⟩
                 have n5_ : Aside0 (gb343 ≠ gb345):=⟨h5_⟩
                 have n6_ : Aside0 (w.heap.size ≤ gb345):=⟨h6_⟩
                 have n7_ : Aside0 (w.heap.size ≤ gb345):=⟨h7_⟩
                 have n8_ : Aside0 (Below w.heap.size w w22):=⟨h8_⟩
                 clear HB
                 clear h0_ h1_ h2_ h3_ h4_ h5_ h6_ h7_ h8_
                 have BK343:=n0_
                 have BK345:=n1_
                 have GW343:=n2_
                 have GE343:=n3_
                 have NB345_343:=n4_
                 have NB343_345:=n5_
                 have GW345:=n6_
                 have GE345:=n7_
                 have HB:=n8_
                 clear n0_ n1_ n2_ n3_ n4_ n5_ n6_ n7_ n8_
                 have hHeld : w22.cell? (ad340.add ((x24_2).toNat * 2)) = some (.int .i64 ((rd_T78 l0 x24_2).f0)) ∧ w22.cell? ⟨(ad340.add ((x24_2).toNat * 2)).block,(ad340.add ((x24_2).toNat * 2)).off + 1,none⟩ = some (.int .i64 ((rd_T78 l0 x24_2).f1)) ∧ w22.cell? (ad340.add (((ji12)).toNat * 2)) = some (.int .i64 ((rd_T78 l0 (ji12)).f0)) ∧ w22.cell? ⟨(ad340.add (((ji12)).toNat * 2)).block,(ad340.add (((ji12)).toNat * 2)).off + 1,none⟩ = some (.int .i64 ((rd_T78 l0 (ji12)).f1)) ∧ w22.cell? (ad340.add (((ji15)).toNat * 2)) = some (.int .i64 ((rd_T78 l0 (ji15)).f0)) ∧ w22.cell? ⟨(ad340.add (((ji15)).toNat * 2)).block,(ad340.add (((ji15)).toNat * 2)).off + 1,none⟩ = some (.int .i64 ((rd_T78 l0 (ji15)).f1)):=hS_
                 refine norm_ (a':=?_) ?_ ?_
                 rotate_left
                 ·simp only [putAll,Act.put,iT,sZ,sC]
                  rfl
                 refine on 19 6 HT_ (fun K hK => ?_)
                 refine box_step ?hg (N:=6) ?hd (cs:=#[.int .i64 0,.int .i64 0]) (t:=78) ?hr ?_;(case hd => rfl);(case hg => rfl);(case hr => first | (go_simp;done) | (go_simp;rfl))
                 intro gb344 hg w23 hbox hb
                 have BK344:=Aside0.mk (hbox)
                 have GW344:=zb hg
                 have GE344:=zb hg
                 replace HB:=sb hb
                 have NB343_344:=nl BK343 hg
                 have NB344_343:=ng BK343 hg
                 replace BK343:=kb BK343 hb
                 have NB345_344:=nl BK345 hg
                 have NB344_345:=ng BK345 hg
                 replace BK345:=kb BK345 hb
                 clear hb hbox hg
                 refine hK.out _ _ ⟨cq HB.out hw340_0,cq HB.out hw340_1,cq HB.out hw341_0,cq HB.out hw341_1,cq HB.out hw342_0,cq HB.out hw342_1⟩ (fun hHeld => ?_)
                 clear hK K
                 refine norm_ (a':=?_) ?_ ?_
                 rotate_left
                 ·show Act.put _ (some 6) _ = _
                  simp only [Act.put,iT,sZ,sC,i64_w,i32_w]
                  rfl
                 exact norm_ (by first | (simp only [putAll,Act.put,iT,sZ,sC];done) | (simp only [putAll,Act.put,iT,sZ,sC];rfl)) (hJ18_19_20 (gb343,gb344,gb345) _ ⟨hHeld,(bk BK343),(bk BK344),(bk BK345),GW343.out,GE343.out,NB344_343.out,NB343_344.out,NB345_343.out,NB343_345.out,GW344.out,GE344.out,NB345_344.out,NB344_345.out,GW345.out,GE345.out,ib⟩)
               ·skip
                rintro ⟨gb343,gb344⟩ w22 ⟨hS_,h0_,h1_,h2_,h3_,h4_,h5_,h6_,h7_,h8_⟩
                have n0_ : Aside0 (w22.heap[gb343]? = some (.cells #[.int .i64 0,.int .i64 0] 78 (0,0))):=⟨h0_⟩
                have n1_ : Aside0 (w22.heap[gb344]? = some (.cells #[.int .i64 0,.int .i64 0] 78 (0,0))):=⟨h1_⟩
                have n2_ : Aside0 (w.heap.size ≤ gb343):=⟨h2_⟩
                have n3_ : Aside0 (w.heap.size ≤ gb343):=⟨h3_⟩
                have n4_ : Aside0 (gb344 ≠ gb343):=⟨h4_⟩
                have n5_ : Aside0 (gb343 ≠ gb344):=⟨h5_⟩
                have n6_ : Aside0 (w.heap.size ≤ gb344):=⟨h6_⟩
                have n7_ : Aside0 (w.heap.size ≤ gb344):=⟨h7_⟩
                have n8_ : Aside0 (Below w.heap.size w w22):=⟨h8_⟩
                clear HB
                clear h0_ h1_ h2_ h3_ h4_ h5_ h6_ h7_ h8_
                have BK343:=n0_
                have BK344:=n1_
                have GW343:=n2_
                have GE343:=n3_
                have NB344_343:=n4_
                have NB343_344:=n5_
                have GW344:=n6_
                have GE344:=n7_
                have HB:=n8_
                clear n0_ n1_ n2_ n3_ n4_ n5_ n6_ n7_ n8_
                have hHeld : w22.cell? (ad340.add ((x24_2).toNat * 2)) = some (.int .i64 ((rd_T78 l0 x24_2).f0)) ∧ w22.cell? ⟨(ad340.add ((x24_2).toNat * 2)).block,(ad340.add ((x24_2).toNat * 2)).off + 1,none⟩ = some (.int .i64 ((rd_T78 l0 x24_2).f1)) ∧ w22.cell? (ad340.add (((ji12)).toNat * 2)) = some (.int .i64 ((rd_T78 l0 (ji12)).f0)) ∧ w22.cell? ⟨(ad340.add (((ji12)).toNat * 2)).block,(ad340.add (((ji12)).toNat * 2)).off + 1,none⟩ = some (.int .i64 ((rd_T78 l0 (ji12)).f1)) ∧ w22.cell? (ad340.add (((ji15)).toNat * 2)) = some (.int .i64 ((rd_T78 l0 (ji15)).f0)) ∧ w22.cell? ⟨(ad340.add (((ji15)).toNat * 2)).block,(ad340.add (((ji15)).toNat * 2)).off + 1,none⟩ = some (.int .i64 ((rd_T78 l0 (ji15)).f1)):=hS_
                refine norm_ (a':=?_) ?_ ?_
                rotate_left
                ·simp only [putAll,Act.put,iT,sZ,sC]
                 rfl
                refine on 20 7 HT_ (fun K hK => ?_)
                refine box_step ?hg (N:=7) ?hd (cs:=#[.int .i64 0,.int .i64 0]) (t:=78) ?hr ?_;(case hd => rfl);(case hg => rfl);(case hr => first | (go_simp;done) | (go_simp;rfl))
                intro gb345 hg w23 hbox hb
                have BK345:=Aside0.mk (hbox)
                have GW345:=zb hg
                have GE345:=zb hg
                replace HB:=sb hb
                have NB343_345:=nl BK343 hg
                have NB345_343:=ng BK343 hg
                replace BK343:=kb BK343 hb
                have NB344_345:=nl BK344 hg
                have NB345_344:=ng BK344 hg
                replace BK344:=kb BK344 hb
                clear hb hbox hg
                refine hK.out _ _ ⟨cq HB.out hw340_0,cq HB.out hw340_1,cq HB.out hw341_0,cq HB.out hw341_1,cq HB.out hw342_0,cq HB.out hw342_1⟩ (fun hHeld => ?_)
                clear hK K
                refine norm_ (a':=?_) ?_ ?_
                rotate_left
                ·show Act.put _ (some 7) _ = _
                 simp only [Act.put,iT,sZ,sC,i64_w,i32_w]
                 rfl
                exact norm_ (by first | (simp only [putAll,Act.put,iT,sZ,sC];done) | (simp only [putAll,Act.put,iT,sZ,sC];rfl)) (hJ18_19_20 (gb343,gb344,gb345) _ ⟨hHeld,(bk BK343),(bk BK344),(bk BK345),GW343.out,GE343.out,NB344_343.out,NB343_344.out,NB345_343.out,NB343_345.out,GW344.out,GE344.out,NB345_344.out,NB344_345.out,GW345.out,GE345.out,ib⟩)
              rintro ⟨gb343,gb344,gb345⟩ w23 ⟨hS_,h0_,h1_,h2_,h3_,h4_,h5_,h6_,h7_,h8_,h9_,h10_,h11_,h12_,h13_,h14_,h15_⟩
              have n0_ : Aside0 (w23.heap[gb343]? = some (.cells #[.int .i64 0,.int .i64 0] 78 (0,0))):=⟨h0_⟩
              have n1_ : Aside0 (w23.heap[gb344]? = some (.cells #[.int .i64 0,.int .i64 0] 78 (0,0))):=⟨h1_⟩
              have n2_ : Aside0 (w23.heap[gb345]? = some (.cells #[.int .i64 0,.int .i64 0] 78 (0,0))):=⟨h2_⟩
              have n3_ : Aside0 (w.heap.size ≤ gb343):=⟨h3_⟩
              have n4_ : Aside0 (w.heap.size ≤ gb343):=⟨h4_⟩
              have n5_ : Aside0 (gb344 ≠ gb343):=⟨h5_⟩
              have n6_ : Aside0 (gb343 ≠ gb344):=⟨h6_⟩
              have n7_ : Aside0 (gb345 ≠ gb343):=⟨h7_⟩
              have n8_ : Aside0 (gb343 ≠ gb345):=⟨h8_⟩
              have n9_ : Aside0 (w.heap.size ≤ gb344):=⟨h9_⟩
              have n10_ : Aside0 (w.heap.size ≤ gb344):=⟨h10_⟩
              have n11_ : Aside0 (gb345 ≠ gb344):=⟨h11_⟩
              have n12_ : Aside0 (gb344 ≠ gb345):=⟨h12_⟩
              have n13_ : Aside0 (w.heap.size ≤ gb345):=⟨h13_⟩
              have n14_ : Aside0 (w.heap.size ≤ gb345):=⟨h14_⟩
              have n15_ : Aside0 (Below w.heap.size w w23):=⟨h15_⟩
              clear HB
              clear h0_ h1_ h2_ h3_ h4_ h5_ h6_ h7_ h8_ h9_ h10_ h11_ h12_ h13_ h14_ h15_
              have BK343:=n0_
              have BK344:=n1_
              have BK345:=n2_
              have GW343:=n3_
              have GE343:=n4_
              have NB344_343:=n5_
              have NB343_344:=n6_
              have NB345_343:=n7_
              have NB343_345:=n8_
              have GW344:=n9_
              have GE344:=n10_
              have NB345_344:=n11_
              have NB344_345:=n12_
              have GW345:=n13_
              have GE345:=n14_
              have HB:=n15_
              clear n0_ n1_ n2_ n3_ n4_ n5_ n6_ n7_ n8_ n9_ n10_ n11_ n12_ n13_ n14_ n15_
              have hHeld : w23.cell? (ad340.add ((x24_2).toNat * 2)) = some (.int .i64 ((rd_T78 l0 x24_2).f0)) ∧ w23.cell? ⟨(ad340.add ((x24_2).toNat * 2)).block,(ad340.add ((x24_2).toNat * 2)).off + 1,none⟩ = some (.int .i64 ((rd_T78 l0 x24_2).f1)) ∧ w23.cell? (ad340.add (((ji12)).toNat * 2)) = some (.int .i64 ((rd_T78 l0 (ji12)).f0)) ∧ w23.cell? ⟨(ad340.add (((ji12)).toNat * 2)).block,(ad340.add (((ji12)).toNat * 2)).off + 1,none⟩ = some (.int .i64 ((rd_T78 l0 (ji12)).f1)) ∧ w23.cell? (ad340.add (((ji15)).toNat * 2)) = some (.int .i64 ((rd_T78 l0 (ji15)).f0)) ∧ w23.cell? ⟨(ad340.add (((ji15)).toNat * 2)).block,(ad340.add (((ji15)).toNat * 2)).off + 1,none⟩ = some (.int .i64 ((rd_T78 l0 (ji15)).f1)):=hS_
              refine norm_ (a':=?_) ?_ ?_
              rotate_left
              ·simp only [putAll,Act.put,iT,sZ,sC]
               rfl
              refine one_ (i:=21) (N:=none) #[tT,tT,tT,tT,tT,tT,tT,tT,tT,tT,tT,tT,tT,tT,tT,tT,tT,tT,tT,tT,tT,tT,fF,fF] rfl rfl (one_of HT_.out (by kernel_rfl)) (by decide) (fun K hK => ?_)
              have hs24 : w23.cell? ⟨gb343,0,none⟩ = some (.int .i64 0):=(blk_cell BK343.out 0).trans rfl
              have hfs24:=blk_frozen BK343.out 0
              have hns24_1:=NB344_343.out
              have hns24_2:=NB345_343.out
              have hms24_1:=NB343_344.out
              have hms24_2:=NB343_345.out
              have hs25 : w23.cell? ⟨gb343,1,none⟩ = some (.int .i64 0):=(blk_cell BK343.out 1).trans rfl
              have hfs25:=blk_frozen BK343.out 1
              have hns25_1:=NB344_343.out
              have hns25_2:=NB345_343.out
              have hms25_1:=NB343_344.out
              have hms25_2:=NB343_345.out
              refine skip_ (w1:=?_) (by rfl) rfl ?_ ?_
              rotate_left
              ·go_simp
               rfl
              refine hK.out _ _ ⟨(cg hw340_0 GW343 ((cg hw340_0 GW343 (hHeld.1)))),(cg hw340_1 GW343 ((cg hw340_1 GW343 (hHeld.2.1)))),(cg hw341_0 GW343 ((cg hw341_0 GW343 (hHeld.2.2.1)))),(cg hw341_1 GW343 ((cg hw341_1 GW343 (hHeld.2.2.2.1)))),(cg hw342_0 GW343 ((cg hw342_0 GW343 (hHeld.2.2.2.2.1)))),(cg hw342_1 GW343 ((cg hw342_1 GW343 (hHeld.2.2.2.2.2))))⟩ (fun hHeld => ?_)
              clear hK K
              refine one_ (i:=22) (N:=none) #[tT,tT,tT,tT,tT,tT,tT,tT,tT,tT,tT,tT,tT,tT,tT,tT,tT,tT,tT,tT,tT,tT,tT,fF] rfl rfl (one_of HT_.out (by kernel_rfl)) (by decide) (fun K hK => ?_)
              have hs26 : w23.cell? ⟨gb344,0,none⟩ = some (.int .i64 0):=(blk_cell BK344.out 0).trans rfl
              have hfs26:=blk_frozen BK344.out 0
              have hns26_0:=NB343_344.out
              have hns26_2:=NB345_344.out
              have hms26_0:=NB344_343.out
              have hms26_2:=NB344_345.out
              have hs27 : w23.cell? ⟨gb344,1,none⟩ = some (.int .i64 0):=(blk_cell BK344.out 1).trans rfl
              have hfs27:=blk_frozen BK344.out 1
              have hns27_0:=NB343_344.out
              have hns27_2:=NB345_344.out
              have hms27_0:=NB344_343.out
              have hms27_2:=NB344_345.out
              refine skip_ (w1:=?_) (by rfl) rfl ?_ ?_
              rotate_left
              ·go_simp
               rfl
              refine hK.out _ _ ⟨(cg hw340_0 GW344 ((cg hw340_0 GW344 (hHeld.1)))),(cg hw340_1 GW344 ((cg hw340_1 GW344 (hHeld.2.1)))),(cg hw341_0 GW344 ((cg hw341_0 GW344 (hHeld.2.2.1)))),(cg hw341_1 GW344 ((cg hw341_1 GW344 (hHeld.2.2.2.1)))),(cg hw342_0 GW344 ((cg hw342_0 GW344 (hHeld.2.2.2.2.1)))),(cg hw342_1 GW344 ((cg hw342_1 GW344 (hHeld.2.2.2.2.2))))⟩ (fun hHeld => ?_)
              clear hK K
              refine one_ (i:=23) (N:=none) #[tT,tT,tT,tT,tT,tT,tT,tT,tT,tT,tT,tT,tT,tT,tT,tT,tT,tT,tT,tT,tT,tT,tT,tT] rfl rfl (one_of HT_.out (by kernel_rfl)) (by decide) (fun K hK => ?_)
              have hs28 : w23.cell? ⟨gb345,0,none⟩ = some (.int .i64 0):=(blk_cell BK345.out 0).trans rfl
              have hfs28:=blk_frozen BK345.out 0
              have hns28_0:=NB343_345.out
              have hns28_1:=NB344_345.out
              have hms28_0:=NB345_343.out
              have hms28_1:=NB345_344.out
              have hs29 : w23.cell? ⟨gb345,1,none⟩ = some (.int .i64 0):=(blk_cell BK345.out 1).trans rfl
              have hfs29:=blk_frozen BK345.out 1
              have hns29_0:=NB343_345.out
              have hns29_1:=NB344_345.out
              have hms29_0:=NB345_343.out
              have hms29_1:=NB345_344.out
              refine skip_ (w1:=?_) (by rfl) rfl ?_ ?_
              rotate_left
              ·go_simp
               rfl
              refine hK.out _ _ ⟨(cg hw340_0 GW345 ((cg hw340_0 GW345 (hHeld.1)))),(cg hw340_1 GW345 ((cg hw340_1 GW345 (hHeld.2.1)))),(cg hw341_0 GW345 ((cg hw341_0 GW345 (hHeld.2.2.1)))),(cg hw341_1 GW345 ((cg hw341_1 GW345 (hHeld.2.2.2.1)))),(cg hw342_0 GW345 ((cg hw342_0 GW345 (hHeld.2.2.2.2.1)))),(cg hw342_1 GW345 ((cg hw342_1 GW345 (hHeld.2.2.2.2.2))))⟩ (fun hHeld => ?_)
              clear hK K
              refine done_ (done_of HT_.out (by kernel_rfl)) ?_
              go_upto_region 8 with (fail)
              go_cut [59] (fun v59 wc => ∃ (kq : Nat) (x59_17 : Bool),v59 = .bool x59_17 ∧ Aside0 (impl_ValidPolygon.j2 kq l0 (l0.length : Int) x24_2 (l0.length : Int) x24_2 x59_17 ((rd_T78 l0 x24_2).f0) ((rd_T78 l0 x24_2).f1) ((rd_T78 l0 (ji12)).f0) ((rd_T78 l0 (ji12)).f1) = some r) ∧ Aside0 (kq ≤ k2) ∧ Aside0 (wc.heap[gb343]? = some (.cells #[.int .i64 ((rd_T78 l0 x24_2).f0),.int .i64 ((rd_T78 l0 x24_2).f1)] 78 (0,0))) ∧ Aside0 (wc.heap[gb344]? = some (.cells #[.int .i64 ((rd_T78 l0 (ji12)).f0),.int .i64 ((rd_T78 l0 (ji12)).f1)] 78 (0,0))) ∧ Aside0 (wc.heap[gb345]? = some (.cells #[.int .i64 ((rd_T78 l0 (ji15)).f0),.int .i64 ((rd_T78 l0 (ji15)).f1)] 78 (0,0))) ∧ Aside0 (Below w.heap.size w wc))
              case first =>
               have H:=HC18.out
               clear HC18
               by_cases c30 : (((rd_T78 l0 x24_2).f0) == ((rd_T78 l0 (ji12)).f0) && (((rd_T78 l0 x24_2).f1) == ((rd_T78 l0 (ji12)).f1))) = true
               ·rw [if_pos c30] at H
                have c30b0 : (((rd_T78 l0 x24_2).f0) == ((rd_T78 l0 (ji12)).f0) && (((rd_T78 l0 x24_2).f1) == ((rd_T78 l0 (ji12)).f1))) = true:=c30
                (try (have c30b1 : decide (((rd_T78 l0 x24_2).f0) = ((rd_T78 l0 (ji12)).f0) && (((rd_T78 l0 x24_2).f1) == ((rd_T78 l0 (ji12)).f1))) = true:=by simpa using c30))
                (try (have c30b2 : (((rd_T78 l0 x24_2).f0) == ((rd_T78 l0 (ji12)).f0) && (((rd_T78 l0 x24_2).f1) == ((rd_T78 l0 (ji12)).f1))) = true:=by simpa using c30))
                clear c30
                (first | rw [c30b0] | (simp only [i64_w,i32_w];rw [c30b0]) | skip)
                have H':=Aside0.mk H
                clear H
                have hnb31:=NB343_344.out
                have hnc31:=NB344_343.out
                have hnb32:=NB343_345.out
                have hnc32:=NB345_343.out
                have hcz33_0:=ck BK343 0
                have hcz33_1:=ck BK343 1
                have hfz33_0:=blk_frozen BK343.out 0
                have hfz33_1:=blk_frozen BK343.out 1
                have hnb34:=NB344_345.out
                have hnc34:=NB345_344.out
                have hcz35_0:=ck BK344 0
                have hcz35_1:=ck BK344 1
                have hfz35_0:=blk_frozen BK344.out 0
                have hfz35_1:=blk_frozen BK344.out 1
                go_wp2
                go_meet
                case rel => exact ⟨_,(true),(by first | rfl | (simp;done) | (simp [*];done)),H',⟨by have:=HJ1.out;have:=HK2.out;first | omega | exact Nat.le_refl _⟩,⟨by refine bF NB343_345.out ?_;refine bF NB343_345.out ?_;refine bF NB343_344.out ?_;refine bF NB343_344.out ?_;refine bP (cs:=#[.int .i64 ((rd_T78 l0 x24_2).f0),.int .i64 0]) 1 ?_;refine bP (cs:=#[.int .i64 0,.int .i64 0]) 0 ?_;exact bk BK343⟩,⟨by refine bF NB344_345.out ?_;refine bF NB344_345.out ?_;refine bP (cs:=#[.int .i64 ((rd_T78 l0 (ji12)).f0),.int .i64 0]) 1 ?_;refine bP (cs:=#[.int .i64 0,.int .i64 0]) 0 ?_;refine bF NB344_343.out ?_;refine bF NB344_343.out ?_;exact bk BK344⟩,⟨by refine bP (cs:=#[.int .i64 ((rd_T78 l0 (ji15)).f0),.int .i64 0]) 1 ?_;refine bP (cs:=#[.int .i64 0,.int .i64 0]) 0 ?_;refine bF NB345_344.out ?_;refine bF NB345_344.out ?_;refine bF NB345_343.out ?_;refine bF NB345_343.out ?_;exact bk BK345⟩,⟨ib⟩⟩
               ·rw [if_neg c30] at H
                have c30b0 : (((rd_T78 l0 x24_2).f0) == ((rd_T78 l0 (ji12)).f0) && (((rd_T78 l0 x24_2).f1) == ((rd_T78 l0 (ji12)).f1))) = false:=by simpa using c30
                (try (have c30b1 : decide (((rd_T78 l0 x24_2).f0) = ((rd_T78 l0 (ji12)).f0) && (((rd_T78 l0 x24_2).f1) == ((rd_T78 l0 (ji12)).f1))) = false:=by simpa using c30))
                (try (have c30b2 : (((rd_T78 l0 x24_2).f0) == ((rd_T78 l0 (ji12)).f0) && (((rd_T78 l0 x24_2).f1) == ((rd_T78 l0 (ji12)).f1))) = false:=by simpa using c30))
                (try (have c30b3 : ¬ (((rd_T78 l0 x24_2).f0) = ((rd_T78 l0 (ji12)).f0) && (((rd_T78 l0 x24_2).f1) == ((rd_T78 l0 (ji12)).f1))):=by simpa using c30))
                clear c30
                (first | rw [c30b0] | (simp only [i64_w,i32_w];rw [c30b0]) | skip)
                replace H:=bE.mp H
                obtain ⟨t346,A360,H⟩:=H
                replace H : (if t346 = true then (impl_ValidPolygon.j2 k2 l0 (l0.length : Int) x24_2 (l0.length : Int) x24_2 true ((rd_T78 l0 x24_2).f0) ((rd_T78 l0 x24_2).f1) ((rd_T78 l0 (ji12)).f0) ((rd_T78 l0 (ji12)).f1)) else ((impl_on.f ((rd_T78 l0 (ji12)).f0) ((rd_T78 l0 (ji12)).f1) ((rd_T78 l0 (ji15)).f0) ((rd_T78 l0 (ji15)).f1) ((rd_T78 l0 x24_2).f0) ((rd_T78 l0 x24_2).f1)).bind fun t347 => (impl_ValidPolygon.j2 k2 l0 (l0.length : Int) x24_2 (l0.length : Int) x24_2 t347 ((rd_T78 l0 x24_2).f0) ((rd_T78 l0 x24_2).f1) ((rd_T78 l0 (ji12)).f0) ((rd_T78 l0 (ji12)).f1)))) = some r:=H
                have A36:=Aside0.mk A360
                clear A360
                by_cases c37 : t346 = true
                ·subst c37
                 have H1 : (impl_ValidPolygon.j2 k2 l0 (l0.length : Int) x24_2 (l0.length : Int) x24_2 true ((rd_T78 l0 x24_2).f0) ((rd_T78 l0 x24_2).f1) ((rd_T78 l0 (ji12)).f0) ((rd_T78 l0 (ji12)).f1)) = some r:=by rw [if_pos rfl] at H;exact H
                 clear H
                 have H:=H1
                 clear H1
                 have H':=Aside0.mk H
                 clear H
                 have hnb38:=NB343_344.out
                 have hnc38:=NB344_343.out
                 have hnb39:=NB343_345.out
                 have hnc39:=NB345_343.out
                 have hcz40_0:=ck BK343 0
                 have hcz40_1:=ck BK343 1
                 have hfz40_0:=blk_frozen BK343.out 0
                 have hfz40_1:=blk_frozen BK343.out 1
                 have hnb41:=NB344_345.out
                 have hnc41:=NB345_344.out
                 have hcz42_0:=ck BK344 0
                 have hcz42_1:=ck BK344 1
                 have hfz42_0:=blk_frozen BK344.out 0
                 have hfz42_1:=blk_frozen BK344.out 1
                 have hcz43_0:=ck BK345 0
                 have hcz43_1:=ck BK345 1
                 have hfz43_0:=blk_frozen BK345.out 0
                 have hfz43_1:=blk_frozen BK345.out 1
                 go_wp2_with (first | (go_at_call 72;(with_reducible refine (impl_on.calls ((rd_T78 l0 x24_2).f0) ((rd_T78 l0 x24_2).f1) ((rd_T78 l0 (ji12)).f0) ((rd_T78 l0 (ji12)).f1) ((rd_T78 l0 (ji15)).f0) ((rd_T78 l0 (ji15)).f1) true _ A36.out).mono ?_);rintro e w44 ⟨rfl,hb⟩;replace BK343:=Aside0.mk (blk_below (g:=gb343) (o:=.cells #[.int .i64 ((rd_T78 l0 x24_2).f0),.int .i64 ((rd_T78 l0 x24_2).f1)] 78 (0,0)) (by refine bF NB343_345.out ?_;refine bF NB343_345.out ?_;refine bF NB343_344.out ?_;refine bF NB343_344.out ?_;refine bP (cs:=#[.int .i64 ((rd_T78 l0 x24_2).f0),.int .i64 0]) 1 ?_;refine bP (cs:=#[.int .i64 0,.int .i64 0]) 0 ?_;exact bk BK343) hb);replace BK344:=Aside0.mk (blk_below (g:=gb344) (o:=.cells #[.int .i64 ((rd_T78 l0 (ji12)).f0),.int .i64 ((rd_T78 l0 (ji12)).f1)] 78 (0,0)) (by refine bF NB344_345.out ?_;refine bF NB344_345.out ?_;refine bP (cs:=#[.int .i64 ((rd_T78 l0 (ji12)).f0),.int .i64 0]) 1 ?_;refine bP (cs:=#[.int .i64 0,.int .i64 0]) 0 ?_;refine bF NB344_343.out ?_;refine bF NB344_343.out ?_;exact bk BK344) hb);replace BK345:=Aside0.mk (blk_below (g:=gb345) (o:=.cells #[.int .i64 ((rd_T78 l0 (ji15)).f0),.int .i64 ((rd_T78 l0 (ji15)).f1)] 78 (0,0)) (by refine bP (cs:=#[.int .i64 ((rd_T78 l0 (ji15)).f0),.int .i64 0]) 1 ?_;refine bP (cs:=#[.int .i64 0,.int .i64 0]) 0 ?_;refine bF NB345_344.out ?_;refine bF NB345_344.out ?_;refine bF NB345_343.out ?_;refine bF NB345_343.out ?_;exact bk BK345) hb);replace HB:=sb hb;(try clear hb);(try clear hb2);(try clear hk);(try clear hi)))
                 go_meet
                 case rel => exact ⟨_,(true),(by first | rfl | (simp;done) | (simp [*];done)),H',⟨by have:=HJ1.out;have:=HK2.out;first | omega | exact Nat.le_refl _⟩,⟨by exact bk BK343⟩,⟨by exact bk BK344⟩,⟨by exact bk BK345⟩,⟨ib⟩⟩
                ·replace c37:=Bool.eq_false_iff.mpr c37
                 subst c37
                 have H1 : ((impl_on.f ((rd_T78 l0 (ji12)).f0) ((rd_T78 l0 (ji12)).f1) ((rd_T78 l0 (ji15)).f0) ((rd_T78 l0 (ji15)).f1) ((rd_T78 l0 x24_2).f0) ((rd_T78 l0 x24_2).f1)).bind fun t347 => (impl_ValidPolygon.j2 k2 l0 (l0.length : Int) x24_2 (l0.length : Int) x24_2 t347 ((rd_T78 l0 x24_2).f0) ((rd_T78 l0 x24_2).f1) ((rd_T78 l0 (ji12)).f0) ((rd_T78 l0 (ji12)).f1))) = some r:=by rw [if_neg (show ¬ (false = true) by decide)] at H;exact H
                 clear H
                 have H:=H1
                 clear H1
                 replace H:=bE.mp H
                 obtain ⟨t347,A450,H⟩:=H
                 replace H : (impl_ValidPolygon.j2 k2 l0 (l0.length : Int) x24_2 (l0.length : Int) x24_2 t347 ((rd_T78 l0 x24_2).f0) ((rd_T78 l0 x24_2).f1) ((rd_T78 l0 (ji12)).f0) ((rd_T78 l0 (ji12)).f1)) = some r:=H
                 have A45:=Aside0.mk A450
                 clear A450
                 have H':=Aside0.mk H
                 clear H
                 have hnb46:=NB343_344.out
                 have hnc46:=NB344_343.out
                 have hnb47:=NB343_345.out
                 have hnc47:=NB345_343.out
                 have hcz48_0:=ck BK343 0
                 have hcz48_1:=ck BK343 1
                 have hfz48_0:=blk_frozen BK343.out 0
                 have hfz48_1:=blk_frozen BK343.out 1
                 have hnb49:=NB344_345.out
                 have hnc49:=NB345_344.out
                 have hcz50_0:=ck BK344 0
                 have hcz50_1:=ck BK344 1
                 have hfz50_0:=blk_frozen BK344.out 0
                 have hfz50_1:=blk_frozen BK344.out 1
                 have hcz51_0:=ck BK345 0
                 have hcz51_1:=ck BK345 1
                 have hfz51_0:=blk_frozen BK345.out 0
                 have hfz51_1:=blk_frozen BK345.out 1
                 go_wp2_with (first | (go_at_call 72;(with_reducible refine (impl_on.calls ((rd_T78 l0 x24_2).f0) ((rd_T78 l0 x24_2).f1) ((rd_T78 l0 (ji12)).f0) ((rd_T78 l0 (ji12)).f1) ((rd_T78 l0 (ji15)).f0) ((rd_T78 l0 (ji15)).f1) false _ A36.out).mono ?_);rintro e w52 ⟨rfl,hb⟩;replace BK343:=Aside0.mk (blk_below (g:=gb343) (o:=.cells #[.int .i64 ((rd_T78 l0 x24_2).f0),.int .i64 ((rd_T78 l0 x24_2).f1)] 78 (0,0)) (by refine bF NB343_345.out ?_;refine bF NB343_345.out ?_;refine bF NB343_344.out ?_;refine bF NB343_344.out ?_;refine bP (cs:=#[.int .i64 ((rd_T78 l0 x24_2).f0),.int .i64 0]) 1 ?_;refine bP (cs:=#[.int .i64 0,.int .i64 0]) 0 ?_;exact bk BK343) hb);replace BK344:=Aside0.mk (blk_below (g:=gb344) (o:=.cells #[.int .i64 ((rd_T78 l0 (ji12)).f0),.int .i64 ((rd_T78 l0 (ji12)).f1)] 78 (0,0)) (by refine bF NB344_345.out ?_;refine bF NB344_345.out ?_;refine bP (cs:=#[.int .i64 ((rd_T78 l0 (ji12)).f0),.int .i64 0]) 1 ?_;refine bP (cs:=#[.int .i64 0,.int .i64 0]) 0 ?_;refine bF NB344_343.out ?_;refine bF NB344_343.out ?_;exact bk BK344) hb);replace BK345:=Aside0.mk (blk_below (g:=gb345) (o:=.cells #[.int .i64 ((rd_T78 l0 (ji15)).f0),.int .i64 ((rd_T78 l0 (ji15)).f1)] 78 (0,0)) (by refine bP (cs:=#[.int .i64 ((rd_T78 l0 (ji15)).f0),.int .i64 0]) 1 ?_;refine bP (cs:=#[.int .i64 0,.int .i64 0]) 0 ?_;refine bF NB345_344.out ?_;refine bF NB345_344.out ?_;refine bF NB345_343.out ?_;refine bF NB345_343.out ?_;exact bk BK345) hb);replace HB:=sb hb;(try clear hb);(try clear hb2);(try clear hk);(try clear hi);have hcz53_0:=ck BK344 0;have hcz53_1:=ck BK344 1;have hfz53_0:=blk_frozen BK344.out 0;have hfz53_1:=blk_frozen BK344.out 1;have hcz54_0:=ck BK345 0;have hcz54_1:=ck BK345 1;have hfz54_0:=blk_frozen BK345.out 0;have hfz54_1:=blk_frozen BK345.out 1;have hcz55_0:=ck BK343 0;have hcz55_1:=ck BK343 1;have hfz55_0:=blk_frozen BK343.out 0;have hfz55_1:=blk_frozen BK343.out 1) | (go_at_call 72;(with_reducible refine (impl_on.calls ((rd_T78 l0 (ji12)).f0) ((rd_T78 l0 (ji12)).f1) ((rd_T78 l0 (ji15)).f0) ((rd_T78 l0 (ji15)).f1) ((rd_T78 l0 x24_2).f0) ((rd_T78 l0 x24_2).f1) t347 _ A45.out).mono ?_);rintro e w56 ⟨rfl,hb⟩;replace BK343:=kb BK343 hb;replace BK344:=kb BK344 hb;replace BK345:=kb BK345 hb;replace HB:=sb hb;(try clear hb);(try clear hb2);(try clear hk);(try clear hi)))
                 go_meet
                 case rel => exact ⟨_,(t347),(by first | rfl | (simp;done) | (simp [*];done)),H',⟨by have:=HJ1.out;have:=HK2.out;first | omega | exact Nat.le_refl _⟩,⟨by exact bk BK343⟩,⟨by exact bk BK344⟩,⟨by exact bk BK345⟩,⟨ib⟩⟩
              case rest =>
               clear HC18
               try clear p2
               try clear c3
               try clear c4
               try clear c30
               try clear c30b0
               try clear c30b1
               try clear c30b2
               try clear c31
               try clear c32
               try clear c34
               try clear c37
               try clear c38
               try clear c39
               try clear c41
               try clear c46
               try clear c47
               try clear c49
               try clear hcz33_0
               try clear hcz33_1
               try clear hcz35_0
               try clear hcz35_1
               try clear hcz40_0
               try clear hcz40_1
               try clear hcz42_0
               try clear hcz42_1
               try clear hcz43_0
               try clear hcz43_1
               try clear hcz48_0
               try clear hcz48_1
               try clear hcz50_0
               try clear hcz50_1
               try clear hcz51_0
               try clear hcz51_1
               try clear hcz53_0
               try clear hcz53_1
               try clear hcz54_0
               try clear hcz54_1
               try clear hcz55_0
               try clear hcz55_1
               try clear hfz33_0
               try clear hfz33_1
               try clear hfz35_0
               try clear hfz35_1
               try clear hfz40_0
               try clear hfz40_1
               try clear hfz42_0
               try clear hfz42_1
               try clear hfz43_0
               try clear hfz43_1
               try clear hfz48_0
               try clear hfz48_1
               try clear hfz50_0
               try clear hfz50_1
               try clear hfz51_0
               try clear hfz51_1
               try clear hfz53_0
               try clear hfz53_1
               try clear hfz54_0
               try clear hfz54_1
               try clear hfz55_0
               try clear hfz55_1
               obtain ⟨kq,x59_17,rfl,HA,HJ17,BK343,BK344,BK345,HB⟩:=hcut
               cases kq with
               | zero => exact absurd HA.out (by simp [impl_ValidPolygon.j2])
               | succ kj17 =>
                have H:=HA.out
                clear HA
                simp only [impl_ValidPolygon.j2] at H
                by_cases c57 : x59_17 = true
                ·subst c57
                 have H1 : (some false) = some r:=by rw [if_pos rfl] at H;exact H
                 clear H
                 have H:=H1
                 clear H1
                 obtain rfl:=Option.some.inj H
                 go_wp2
                 go_ret
                 exact ⟨by first | rfl | (simp [errW_none,errW_some] <;> rfl) | (simp only [← hji12,← hji15];first | rfl | (simp [errW_none,errW_some] <;> rfl)) | (simp [*,errW_none,errW_some] <;> rfl),ib⟩
                ·replace c57:=Bool.eq_false_iff.mpr c57
                 subst c57
                 have H1 : (impl_ValidPolygon.l1 kj17 l0 (l0.length : Int) x24_2 (wrap64 (x24_2 + 2)) (l0.length : Int) x24_2 ((rd_T78 l0 x24_2).f0) ((rd_T78 l0 x24_2).f1) ((rd_T78 l0 (ji12)).f0) ((rd_T78 l0 (ji12)).f1)) = some r:=by rw [if_neg (show ¬ (false = true) by decide)] at H;exact H
                 clear H
                 have H:=H1
                 clear H1
                 have H':=Aside0.mk H
                 clear H
                 go_wp2
                 go_loopg [8] kj17 (fun kq v8 w' => ∃ (x8_4 : Int),v8 = .int .i64 x8_4 ∧ Aside0 (impl_ValidPolygon.l1 kq l0 (l0.length : Int) x24_2 x8_4 (l0.length : Int) x24_2 ((rd_T78 l0 x24_2).f0) ((rd_T78 l0 x24_2).f1) ((rd_T78 l0 (ji12)).f0) ((rd_T78 l0 (ji12)).f1) = some r) ∧ Aside0 (kq ≤ kj17) ∧ Aside0 (w'.heap[gb343]? = some (.cells #[.int .i64 ((rd_T78 l0 x24_2).f0),.int .i64 ((rd_T78 l0 x24_2).f1)] 78 (0,0))) ∧ Aside0 (w'.heap[gb344]? = some (.cells #[.int .i64 ((rd_T78 l0 (ji12)).f0),.int .i64 ((rd_T78 l0 (ji12)).f1)] 78 (0,0))) ∧ Aside0 (w'.heap[gb345]? = some (.cells #[.int .i64 ((rd_T78 l0 (ji15)).f0),.int .i64 ((rd_T78 l0 (ji15)).f1)] 78 (0,0))) ∧ Aside0 (Below w.heap.size w w'))
                 case atStart => exact ⟨(wrap64 (x24_2 + 2)),(by first | rfl | (simp;done) | (simp [*];done)),H',⟨Nat.le_refl _⟩,⟨by exact bk BK343⟩,⟨by exact bk BK344⟩,⟨by exact bk BK345⟩,⟨ib⟩⟩
                 case round =>
                  clear H'
                  try clear p2
                  try clear c3
                  try clear c4
                  try clear c5
                  try clear p6
                  try clear c30
                  try clear c30b0
                  try clear c30b1
                  try clear c30b2
                  try clear c31
                  try clear c32
                  try clear c34
                  try clear c37
                  try clear c38
                  try clear c39
                  try clear c41
                  try clear c46
                  try clear c47
                  try clear c49
                  try clear c57
                  try clear hcz33_0
                  try clear hcz33_1
                  try clear hcz35_0
                  try clear hcz35_1
                  try clear hcz40_0
                  try clear hcz40_1
                  try clear hcz42_0
                  try clear hcz42_1
                  try clear hcz43_0
                  try clear hcz43_1
                  try clear hcz48_0
                  try clear hcz48_1
                  try clear hcz50_0
                  try clear hcz50_1
                  try clear hcz51_0
                  try clear hcz51_1
                  try clear hcz53_0
                  try clear hcz53_1
                  try clear hcz54_0
                  try clear hcz54_1
                  try clear hcz55_0
                  try clear hcz55_1
                  try clear hfz33_0
                  try clear hfz33_1
                  try clear hfz35_0
                  try clear hfz35_1
                  try clear hfz40_0
                  try clear hfz40_1
                  try clear hfz42_0
                  try clear hfz42_1
                  try clear hfz43_0
                  try clear hfz43_1
                  try clear hfz48_0
                  try clear hfz48_1
                  try clear hfz50_0
                  try clear hfz50_1
                  try clear hfz51_0
                  try clear hfz51_1
                  try clear hfz53_0
                  try clear hfz53_1
                  try clear hfz54_0
                  try clear hfz54_1
                  try clear hfz55_0
                  try clear hfz55_1
                  try clear p2
                  obtain ⟨x8_4,rfl,HA,HK4,BK343,BK344,BK345,HB⟩:=hrel
                  cases gk with
                  | zero => exact absurd HA.out (by simp [impl_ValidPolygon.l1])
                  | succ k4 =>
                   have H:=HA.out
                   clear HA
                   simp only [impl_ValidPolygon.l1] at H
                   by_cases c58 : x8_4 < (l0.length : Int)
                   ·rw [if_pos c58] at H
                    have c58b0 : decide (x8_4 < (l0.length : Int)) = true:=decide_eq_true c58
                    clear c58
                    by_cases c59 : (l0.length : Int) = 0
                    ·rw [if_pos c59] at H
                     exact absurd H (by simp)
                    ·rw [if_neg c59] at H
                     have c59b0 : ((l0.length : Int) == 0) = false:=beq_eq_false_iff_ne.mpr c59
                     have c59b1 : ((l0.length : Int) != 0) = true:=bne_iff_ne.mpr c59
                     have c59b2 : ¬ (l0 = []):=fun h_ => c59 (by rw [h_];rfl)
                     by_cases c60 : (Int.tmod (wrap64 (x8_4 + 1)) (l0.length : Int)) = x24_2
                     ·rw [if_pos c60] at H
                      have c60b0 : ((Int.tmod (wrap64 (x8_4 + 1)) (l0.length : Int)) == x24_2) = true:=beq_iff_eq.mpr c60
                      have c60b1 : ((Int.tmod (wrap64 (x8_4 + 1)) (l0.length : Int)) != x24_2) = false:=bne_eq_false_iff_eq.mpr c60
                      clear c60
                      have H':=Aside0.mk H
                      clear H
                      try go_wp2
                      replace BK343:=Aside0.mk (blk_drew BK343.out)
                      replace BK344:=Aside0.mk (blk_drew BK344.out)
                      replace BK345:=Aside0.mk (blk_drew BK345.out)
                      replace HB:=Aside0.mk (below_drew1 HB.out)
                      refine start_ (n:=22) (S:=fun w' => True) (ds:=[]) #[fF,fF,fF,fF,fF,fF,fF,fF,fF,fF,fF,fF,fF,fF,fF,fF,fF,fF,fF,fF,fF,fF] (by kernel_rfl) rfl rfl trivial (fun hHeld => ?_);refine with_tabW impl_ValidPolygon.tab13 impl_ValidPolygon.bits13 (fun HT_ HW_ => ?_)
                      generalize wr.drew = w61 at BK343 BK344 BK345 HB hHeld ⊢
                      refine pu 0 67 HT_ ?_
                      refine pu 1 68 HT_ ?_
                      refine pu 2 69 HT_ ?_
                      refine pu 3 70 HT_ ?_
                      refine pu 4 71 HT_ ?_
                      refine pu 5 72 HT_ ?_
                      refine pu 6 73 HT_ ?_
                      refine pd 7 74 HT_ ?_
                      refine pd 8 75 HT_ ?_
                      refine pd 9 76 HT_ ?_
                      refine pd 10 77 HT_ ?_
                      refine pd 11 78 HT_ ?_
                      refine pd 12 79 HT_ ?_
                      refine pd 13 80 HT_ ?_
                      refine pd 14 81 HT_ ?_
                      refine pd 15 82 HT_ ?_
                      refine pd 16 83 HT_ ?_
                      refine pd 17 84 HT_ ?_
                      refine pd 18 85 HT_ ?_
                      refine pd 19 86 HT_ ?_
                      refine pd 20 87 HT_ ?_
                      refine pu 21 88 HT_ ?_
                      refine done_ (done_of HT_.out (by kernel_rfl)) ?_
                      try go_wp2
                      go_roundg k4
                      case measure => have:=HJ1.out;have:=HK2.out;have:=HJ17.out;have:=HK4.out;omega
                      case rel => exact ⟨(wrap64 (x8_4 + 1)),(by first | rfl | (simp;done) | (simp [*];done)),H',⟨by have:=HJ1.out;have:=HK2.out;have:=HJ17.out;have:=HK4.out;omega⟩,⟨by exact bk BK343⟩,⟨by exact bk BK344⟩,⟨by exact bk BK345⟩,⟨ib⟩⟩
                     ·rw [if_neg c60] at H
                      have c60b0 : ((Int.tmod (wrap64 (x8_4 + 1)) (l0.length : Int)) == x24_2) = false:=beq_eq_false_iff_ne.mpr c60
                      have c60b1 : ((Int.tmod (wrap64 (x8_4 + 1)) (l0.length : Int)) != x24_2) = true:=bne_iff_ne.mpr c60
                      by_cases c62 : 0 ≤ x8_4
                      ·rw [if_pos c62] at H
                       have c62b0 : decide (0 ≤ x8_4) = true:=decide_eq_true c62
                       clear c62
                       by_cases c63 : x8_4 < (l0.length : Int)
                       ·rw [if_pos c63] at H
                        have c63b0 : decide (x8_4 < (l0.length : Int)) = true:=decide_eq_true c63
                        clear c63
                        obtain ⟨ji64,hji64⟩ : ∃ j_ : Int,(Int.tmod (wrap64 (x8_4 + 1)) (l0.length : Int)) = j_:=⟨_,rfl⟩
                        replace H : (if 0 ≤ (ji64) then (if (ji64) < (l0.length : Int) then ((impl_touching.f ((rd_T78 l0 x24_2).f0) ((rd_T78 l0 x24_2).f1) ((rd_T78 l0 (ji12)).f0) ((rd_T78 l0 (ji12)).f1) ((rd_T78 l0 x8_4).f0) ((rd_T78 l0 x8_4).f1) ((rd_T78 l0 (ji64)).f0) ((rd_T78 l0 (ji64)).f1)).bind fun t350 => (if t350 = true then (some false) else (impl_ValidPolygon.l1 k4 l0 (l0.length : Int) x24_2 (wrap64 (x8_4 + 1)) (l0.length : Int) x24_2 ((rd_T78 l0 x24_2).f0) ((rd_T78 l0 x24_2).f1) ((rd_T78 l0 (ji12)).f0) ((rd_T78 l0 (ji12)).f1)))) else (none)) else (none)) = some r:=by first | (rw [hji64] at H;exact H) | (simp only [hji64] at H ⊢;exact H)
                        (try rw [hji64] at c60b0)
                        (try rw [hji64] at c60b1)
                        by_cases c65 : 0 ≤ (ji64)
                        ·rw [if_pos c65] at H
                         have c65b0 : decide (0 ≤ (ji64)) = true:=decide_eq_true c65
                         clear c65
                         by_cases c66 : (ji64) < (l0.length : Int)
                         ·rw [if_pos c66] at H
                          have c66b0 : decide ((ji64) < (l0.length : Int)) = true:=decide_eq_true c66
                          clear c66
                          replace H:=bE.mp H
                          obtain ⟨t350,A670,H⟩:=H
                          replace H : (if t350 = true then (some false) else (impl_ValidPolygon.l1 k4 l0 (l0.length : Int) x24_2 (wrap64 (x8_4 + 1)) (l0.length : Int) x24_2 ((rd_T78 l0 x24_2).f0) ((rd_T78 l0 x24_2).f1) ((rd_T78 l0 (ji12)).f0) ((rd_T78 l0 (ji12)).f1))) = some r:=H
                          have A67:=Aside0.mk A670
                          clear A670
                          by_cases c68 : t350 = true
                          ·subst c68
                           have H1 : (some false) = some r:=by rw [if_pos rfl] at H;exact H
                           clear H
                           have H:=H1
                           clear H1
                           obtain rfl:=Option.some.inj H
                           try go_wp2
                           replace BK343:=Aside0.mk (blk_drew BK343.out)
                           replace BK344:=Aside0.mk (blk_drew BK344.out)
                           replace BK345:=Aside0.mk (blk_drew BK345.out)
                           replace HB:=Aside0.mk (below_drew1 HB.out)
                           have p348 : 0 ≤ (x8_4 : Int):=da
                           have q348 : x8_4 < (l0.length : Int):=da
                           obtain ⟨ad348,e348,hx348_0,hx348_1⟩:=at_T78 HR0.out x8_4 p348 q348
                           have hw348_1:=hx348_1
                           have hw348_0:=hx348_0
                           obtain rfl : ad340 = ad348:=(by injection e348)
                           replace hx348_0:=cq HB.out hx348_0
                           replace hx348_1:=cq HB.out hx348_1
                           replace p348:=eq_true p348
                           replace q348:=eq_true q348
                           have p349 : 0 ≤ ((ji64) : Int):=da
                           have q349 : (ji64) < (l0.length : Int):=da
                           obtain ⟨ad349,e349,hx349_0,hx349_1⟩:=at_T78 HR0.out (ji64) p349 q349
                           have hw349_1:=hx349_1
                           have hw349_0:=hx349_0
                           obtain rfl : ad340 = ad349:=(by injection e349)
                           replace hx349_0:=cq HB.out hx349_0
                           replace hx349_1:=cq HB.out hx349_1
                           replace p349:=eq_true p349
                           replace q349:=eq_true q349
                           refine start_ (n:=22) (S:=fun w' => w'.cell? ⟨gb343,0,none⟩ = some (.int .i64 ((rd_T78 l0 x24_2).f0)) ∧ w'.cell? ⟨gb343,1,none⟩ = some (.int .i64 ((rd_T78 l0 x24_2).f1)) ∧ w'.cell? ⟨gb344,0,none⟩ = some (.int .i64 ((rd_T78 l0 (ji12)).f0)) ∧ w'.cell? ⟨gb344,1,none⟩ = some (.int .i64 ((rd_T78 l0 (ji12)).f1)) ∧ w'.cell? (ad340.add ((x8_4).toNat * 2)) = some (.int .i64 ((rd_T78 l0 x8_4).f0)) ∧ w'.cell? ⟨(ad340.add ((x8_4).toNat * 2)).block,(ad340.add ((x8_4).toNat * 2)).off + 1,none⟩ = some (.int .i64 ((rd_T78 l0 x8_4).f1)) ∧ w'.cell? (ad340.add (((ji64)).toNat * 2)) = some (.int .i64 ((rd_T78 l0 (ji64)).f0)) ∧ w'.cell? ⟨(ad340.add (((ji64)).toNat * 2)).block,(ad340.add (((ji64)).toNat * 2)).off + 1,none⟩ = some (.int .i64 ((rd_T78 l0 (ji64)).f1))) (ds:=[]) #[fF,fF,fF,fF,fF,fF,fF,fF,fF,fF,fF,fF,fF,fF,fF,fF,fF,fF,fF,fF,fF,fF] (by kernel_rfl) rfl rfl ⟨(blk_cell BK343.out 0).trans rfl,(blk_cell BK343.out 1).trans rfl,(blk_cell BK344.out 0).trans rfl,(blk_cell BK344.out 1).trans rfl,cq HB.out hw348_0,cq HB.out hw348_1,cq HB.out hw349_0,cq HB.out hw349_1⟩ (fun hHeld => ?_);refine with_tabW impl_ValidPolygon.tab13 impl_ValidPolygon.bits13 (fun HT_ HW_ => ?_)
                           generalize wr.drew = w69 at BK343 BK344 BK345 HB hx348_0 hx348_1 hx349_0 hx349_1 hHeld ⊢
                           refine pu 0 67 HT_ ?_
                           refine pu 1 68 HT_ ?_
                           refine pu 2 69 HT_ ?_
                           refine pu 3 70 HT_ ?_
                           refine pu 4 71 HT_ ?_
                           refine pu 5 72 HT_ ?_
                           refine pu 6 73 HT_ ?_
                           refine pu 9 76 HT_ ?_
                           refine pu 10 77 HT_ ?_
                           refine pu 11 78 HT_ ?_
                           refine pu 13 80 HT_ ?_
                           refine pu 14 81 HT_ ?_
                           refine pu 15 82 HT_ ?_
                           refine pu 16 83 HT_ ?_
                           refine pu 17 84 HT_ ?_
                           refine pu 18 85 HT_ ?_
                           refine tk 7 74 HT_ HW_ hHeld ?_
                           refine tk 8 75 HT_ HW_ hHeld ?_
                           refine tk 12 79 HT_ HW_ hHeld ?_
                           refine tk 19 86 HT_ HW_ hHeld ?_
                           refine on 20 87 HT_ (fun K hK => ?_)
                           refine goes_ Try.func73 (by kernel_rfl) rfl #[.agg #[.int .i64 ((rd_T78 l0 x24_2).f0),.int .i64 ((rd_T78 l0 x24_2).f1)],.agg #[.int .i64 ((rd_T78 l0 (ji12)).f0),.int .i64 ((rd_T78 l0 (ji12)).f1)],.agg #[.int .i64 ((rd_T78 l0 x8_4).f0),.int .i64 ((rd_T78 l0 x8_4).f1)],.agg #[.int .i64 ((rd_T78 l0 (ji64)).f0),.int .i64 ((rd_T78 l0 (ji64)).f1)]] (by rfl) rfl rfl (by (try simp only [List.map_toArray,List.map_cons,List.map_nil]);first | done | (simp only [hji12,hji64];rfl) | rfl | (simp only [List.length_drop,List.length_take];rfl)) ?_
                           with_reducible refine (impl_touching.calls ((rd_T78 l0 x24_2).f0) ((rd_T78 l0 x24_2).f1) ((rd_T78 l0 (ji12)).f0) ((rd_T78 l0 (ji12)).f1) ((rd_T78 l0 x8_4).f0) ((rd_T78 l0 x8_4).f1) ((rd_T78 l0 (ji64)).f0) ((rd_T78 l0 (ji64)).f1) true _ A67.out).mono ?_
                           rintro e w70 ⟨rfl,hb⟩
                           refine ⟨_,rfl,?_⟩
                           replace BK343:=kb BK343 hb
                           replace BK344:=kb BK344 hb
                           replace BK345:=kb BK345 hb
                           replace HB:=sb hb
                           (try clear hb)
                           (try clear hb2)
                           (try clear hk)
                           (try clear hi)
                           refine hK.out _ _ ⟨(blk_cell BK343.out 0).trans rfl,(blk_cell BK343.out 1).trans rfl,(blk_cell BK344.out 0).trans rfl,(blk_cell BK344.out 1).trans rfl,cq HB.out hw348_0,cq HB.out hw348_1,cq HB.out hw349_0,cq HB.out hw349_1⟩ (fun hHeld => ?_)
                           clear hK K
                           refine norm_ (a':=?_) ?_ ?_
                           rotate_left
                           ·show Act.put _ (some 87) _ = _
                            simp only [Act.put,iT,sZ,sC,i64_w,i32_w]
                            rfl
                           refine pu 21 88 HT_ ?_
                           refine done_ (done_of HT_.out (by kernel_rfl)) ?_
                           try go_wp2
                           go_ret
                           exact ⟨by first | rfl | (simp [errW_none,errW_some] <;> rfl) | (simp only [← hji12,← hji15,← hji64];first | rfl | (simp [errW_none,errW_some] <;> rfl)) | (simp [*,errW_none,errW_some] <;> rfl),ib⟩
                          ·replace c68:=Bool.eq_false_iff.mpr c68
                           subst c68
                           have H1 : (impl_ValidPolygon.l1 k4 l0 (l0.length : Int) x24_2 (wrap64 (x8_4 + 1)) (l0.length : Int) x24_2 ((rd_T78 l0 x24_2).f0) ((rd_T78 l0 x24_2).f1) ((rd_T78 l0 (ji12)).f0) ((rd_T78 l0 (ji12)).f1)) = some r:=by rw [if_neg (show ¬ (false = true) by decide)] at H;exact H
                           clear H
                           have H:=H1
                           clear H1
                           have H':=Aside0.mk H
                           clear H
                           try go_wp2
                           replace BK343:=Aside0.mk (blk_drew BK343.out)
                           replace BK344:=Aside0.mk (blk_drew BK344.out)
                           replace BK345:=Aside0.mk (blk_drew BK345.out)
                           replace HB:=Aside0.mk (below_drew1 HB.out)
                           have p348 : 0 ≤ (x8_4 : Int):=da
                           have q348 : x8_4 < (l0.length : Int):=da
                           obtain ⟨ad348,e348,hx348_0,hx348_1⟩:=at_T78 HR0.out x8_4 p348 q348
                           have hw348_1:=hx348_1
                           have hw348_0:=hx348_0
                           obtain rfl : ad340 = ad348:=(by injection e348)
                           replace hx348_0:=cq HB.out hx348_0
                           replace hx348_1:=cq HB.out hx348_1
                           replace p348:=eq_true p348
                           replace q348:=eq_true q348
                           have p349 : 0 ≤ ((ji64) : Int):=da
                           have q349 : (ji64) < (l0.length : Int):=da
                           obtain ⟨ad349,e349,hx349_0,hx349_1⟩:=at_T78 HR0.out (ji64) p349 q349
                           have hw349_1:=hx349_1
                           have hw349_0:=hx349_0
                           obtain rfl : ad340 = ad349:=(by injection e349)
                           replace hx349_0:=cq HB.out hx349_0
                           replace hx349_1:=cq HB.out hx349_1
                           replace p349:=eq_true p349
                           replace q349:=eq_true q349
                           refine start_ (n:=22) (S:=fun w' => w'.cell? ⟨gb343,0,none⟩ = some (.int .i64 ((rd_T78 l0 x24_2).f0)) ∧ w'.cell? ⟨gb343,1,none⟩ = some (.int .i64 ((rd_T78 l0 x24_2).f1)) ∧ w'.cell? ⟨gb344,0,none⟩ = some (.int .i64 ((rd_T78 l0 (ji12)).f0)) ∧ w'.cell? ⟨gb344,1,none⟩ = some (.int .i64 ((rd_T78 l0 (ji12)).f1)) ∧ w'.cell? (ad340.add ((x8_4).toNat * 2)) = some (.int .i64 ((rd_T78 l0 x8_4).f0)) ∧ w'.cell? ⟨(ad340.add ((x8_4).toNat * 2)).block,(ad340.add ((x8_4).toNat * 2)).off + 1,none⟩ = some (.int .i64 ((rd_T78 l0 x8_4).f1)) ∧ w'.cell? (ad340.add (((ji64)).toNat * 2)) = some (.int .i64 ((rd_T78 l0 (ji64)).f0)) ∧ w'.cell? ⟨(ad340.add (((ji64)).toNat * 2)).block,(ad340.add (((ji64)).toNat * 2)).off + 1,none⟩ = some (.int .i64 ((rd_T78 l0 (ji64)).f1))) (ds:=[]) #[fF,fF,fF,fF,fF,fF,fF,fF,fF,fF,fF,fF,fF,fF,fF,fF,fF,fF,fF,fF,fF,fF] (by kernel_rfl) rfl rfl ⟨(blk_cell BK343.out 0).trans rfl,(blk_cell BK343.out 1).trans rfl,(blk_cell BK344.out 0).trans rfl,(blk_cell BK344.out 1).trans rfl,cq HB.out hw348_0,cq HB.out hw348_1,cq HB.out hw349_0,cq HB.out hw349_1⟩ (fun hHeld => ?_);refine with_tabW impl_ValidPolygon.tab13 impl_ValidPolygon.bits13 (fun HT_ HW_ => ?_)
                           generalize wr.drew = w71 at BK343 BK344 BK345 HB hx348_0 hx348_1 hx349_0 hx349_1 hHeld ⊢
                           refine pu 0 67 HT_ ?_
                           refine pu 1 68 HT_ ?_
                           refine pu 2 69 HT_ ?_
                           refine pu 3 70 HT_ ?_
                           refine pu 4 71 HT_ ?_
                           refine pu 5 72 HT_ ?_
                           refine pu 6 73 HT_ ?_
                           refine pu 9 76 HT_ ?_
                           refine pu 10 77 HT_ ?_
                           refine pu 11 78 HT_ ?_
                           refine pu 13 80 HT_ ?_
                           refine pu 14 81 HT_ ?_
                           refine pu 15 82 HT_ ?_
                           refine pu 16 83 HT_ ?_
                           refine pu 17 84 HT_ ?_
                           refine pu 18 85 HT_ ?_
                           refine tk 7 74 HT_ HW_ hHeld ?_
                           refine tk 8 75 HT_ HW_ hHeld ?_
                           refine tk 12 79 HT_ HW_ hHeld ?_
                           refine tk 19 86 HT_ HW_ hHeld ?_
                           refine on 20 87 HT_ (fun K hK => ?_)
                           refine goes_ Try.func73 (by kernel_rfl) rfl #[.agg #[.int .i64 ((rd_T78 l0 x24_2).f0),.int .i64 ((rd_T78 l0 x24_2).f1)],.agg #[.int .i64 ((rd_T78 l0 (ji12)).f0),.int .i64 ((rd_T78 l0 (ji12)).f1)],.agg #[.int .i64 ((rd_T78 l0 x8_4).f0),.int .i64 ((rd_T78 l0 x8_4).f1)],.agg #[.int .i64 ((rd_T78 l0 (ji64)).f0),.int .i64 ((rd_T78 l0 (ji64)).f1)]] (by rfl) rfl rfl (by (try simp only [List.map_toArray,List.map_cons,List.map_nil]);first | done | (simp only [hji12,hji64];rfl) | rfl | (simp only [List.length_drop,List.length_take];rfl)) ?_
                           with_reducible refine (impl_touching.calls ((rd_T78 l0 x24_2).f0) ((rd_T78 l0 x24_2).f1) ((rd_T78 l0 (ji12)).f0) ((rd_T78 l0 (ji12)).f1) ((rd_T78 l0 x8_4).f0) ((rd_T78 l0 x8_4).f1) ((rd_T78 l0 (ji64)).f0) ((rd_T78 l0 (ji64)).f1) false _ A67.out).mono ?_
                           rintro e w72 ⟨rfl,hb⟩
                           refine ⟨_,rfl,?_⟩
                           replace BK343:=kb BK343 hb
                           replace BK344:=kb BK344 hb
                           replace BK345:=kb BK345 hb
                           replace HB:=sb hb
                           (try clear hb)
                           (try clear hb2)
                           (try clear hk)
                           (try clear hi)
                           refine hK.out _ _ ⟨(blk_cell BK343.out 0).trans rfl,(blk_cell BK343.out 1).trans rfl,(blk_cell BK344.out 0).trans rfl,(blk_cell BK344.out 1).trans rfl,cq HB.out hw348_0,cq HB.out hw348_1,cq HB.out hw349_0,cq HB.out hw349_1⟩ (fun hHeld => ?_)
                           clear hK K
                           refine norm_ (a':=?_) ?_ ?_
                           rotate_left
                           ·show Act.put _ (some 87) _ = _
                            simp only [Act.put,iT,sZ,sC,i64_w,i32_w]
                            rfl
                           refine pu 21 88 HT_ ?_
                           refine done_ (done_of HT_.out (by kernel_rfl)) ?_
                           try go_wp2
                           go_roundg k4
                           case measure => have:=HJ1.out;have:=HK2.out;have:=HJ17.out;have:=HK4.out;omega
                           case rel => exact ⟨(wrap64 (x8_4 + 1)),(by first | rfl | (simp;done) | (simp [*];done)),H',⟨by have:=HJ1.out;have:=HK2.out;have:=HJ17.out;have:=HK4.out;omega⟩,⟨by exact bk BK343⟩,⟨by exact bk BK344⟩,⟨by exact bk BK345⟩,⟨ib⟩⟩
                         ·rw [if_neg c66] at H
                          exact absurd H (by simp)
                        ·rw [if_neg c65] at H
                         exact absurd H (by simp)
                       ·first | (exfalso;have z_:=of_decide_eq_true c58b0;omega) | (rw [if_neg c63] at H;exact absurd H (by simp))
                      ·rw [if_neg c62] at H
                       exact absurd H (by simp)
                   ·rw [if_neg c58] at H
                    have c58b0 : decide (x8_4 < (l0.length : Int)) = false:=decide_eq_false c58
                    clear c58
                    have H':=Aside0.mk H
                    clear H
                    go_wp2
                    go_roundg k4
                    case measure => have:=HJ1.out;have:=HK2.out;have:=HJ17.out;have:=HK4.out;omega
                    case rel => exact ⟨(wrap64 (x24_2 + 1)),(by first | rfl | (simp;done) | (simp [*];done)),H',⟨by have:=HJ1.out;have:=HK2.out;have:=HJ17.out;have:=HK4.out;omega⟩,⟨ib⟩⟩
             ·rw [if_neg c17] at H
              exact absurd H (by simp)
            ·rw [if_neg c16] at H
             exact absurd H (by simp)
           ·rw [if_neg c14] at H
            exact absurd H (by simp)
          ·rw [if_neg c13] at H
           exact absurd H (by simp)
        ·first | (exfalso;have z_:=of_decide_eq_true c8b0;omega) | (rw [if_neg c10] at H;exact absurd H (by simp))
       ·rw [if_neg c9] at H
        exact absurd H (by simp)
      ·rw [if_neg c8] at H
       have c8b0 : decide (x24_2 < (l0.length : Int)) = false:=decide_eq_false c8
       clear c8
       replace H:=bE.mp H
       obtain ⟨t339,A730,H⟩:=H
       replace H : (some (decide (t339 > 0))) = some r:=H
       have A73:=Aside0.mk A730
       clear A730
       obtain rfl:=Option.some.inj H
       go_wp2_with (first | ((with_reducible refine gate_callee (f:=74) rfl ?_);refine goesL_ (some 91) rfl rfl Try.func74 (by kernel_rfl) rfl #[.slice A0 l0.length c0] rfl (by (try simp only [List.map_toArray,List.map_cons,List.map_nil]);first | done | rfl | (simp only [List.length_drop,List.length_take];rfl)) ?_;(with_reducible refine (impl_doubled.calls k2 _ _ l0 t339 _ ?side1 ?side2 A73.out).mono ?_);(case side1 => exact cO ((Kd.C_below HR0.out HB.out)));(case side2 => exact HC0.out);rintro e w74 ⟨rfl,hb⟩;refine ⟨_,rfl,?_⟩;replace HB:=sb hb;(try clear hb);(try clear hb2);(try clear hk);(try clear hi)))
       go_ret
       exact ⟨by first | rfl | (simp [errW_none,errW_some] <;> rfl) | (simp [*,errW_none,errW_some] <;> rfl),ib⟩
end Go.Proofs.Ytpeebobdbaemiaa.PFnExactEdgesOf
