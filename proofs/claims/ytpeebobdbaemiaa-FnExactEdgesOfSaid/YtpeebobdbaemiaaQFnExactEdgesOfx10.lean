/- Contracts of functions that FnExactEdgesOf reaches, out of the lines of the kit's print. -/
import Derived.Test.YtpeebobdbaemiaaQFnExactEdgesOfx0
import Derived.Test.YtpeebobdbaemiaaQFnExactEdgesOfx2
import Derived.Test.YtpeebobdbaemiaaQFnExactEdgesOfx7
import Derived.Test.YtpeebobdbaemiaaQFnExactEdgesOfx8
import Derived.Test.YtpeebobdbaemiaaQFnExactEdgesOfx9
namespace Go.Proofs.Ytpeebobdbaemiaa.PFnExactEdgesOf
open Go.RowKit Go.Proofs.YtpeebobdbaemiaaW.PrintWords Go.Proofs.YtpeebobdbaemiaaW.PrintLast Go.Proofs.YtpeebobdbaemiaaW.PrintMore
open Bool renaming true → tT, false → fF
open Go.World renaming block_lt_of_cell? → bL
open List renaming length_take → lT, length_drop → lD, map_toArray → mT, map_cons → mC, map_nil → mN
open Option renaming bind_eq_some_iff → bE
attribute [local go_sem] max2_int min2_int max_two min_two max_three min_three max_four min_four
set_option linter.unusedVariables false
set_option linter.unusedSimpArgs false
attribute [local go_sem high] eqA78
mutual
def spec_l03Ok.j0 : Nat → List (S78) → Int → Bool → Option (Bool)
 | 0,_,_,_ => none
 | k + 1,x0,x3,x17 => if x17 = true then (some false) else (spec_l03Ok.l0 k x0 x3 0)
def spec_l03Ok.l0 : Nat → List (S78) → Int → Int → Option (Bool)
 | 0,_,_,_ => none
 | k + 1,x0,x3,x4 => if x4 < x3 then (if 0 ≤ x4 then (if x4 < (x0.length : Int) then ((spec_l02Ok.f ((rd_T78 x0 x4).f0) ((rd_T78 x0 x4).f1)).bind fun t231 => (if t231 = true then (spec_l03Ok.l0 k x0 x3 (wrap64 (x4 + 1))) else (some false))) else (none)) else (none)) else (spec_l03Ok.l1 k x0 x3 0)
def spec_l03Ok.l1 : Nat → List (S78) → Int → Int → Option (Bool)
 | 0,_,_,_ => none
 | k + 1,x0,x3,x5 => if x5 < x3 then (if 0 ≤ x5 then (if x5 < (x0.length : Int) then (if x3 = 0 then (none) else (if 0 ≤ (Int.tmod (wrap64 (x5 + 1)) x3) then (if (Int.tmod (wrap64 (x5 + 1)) x3) < (x0.length : Int) then (if 0 ≤ (Int.tmod (wrap64 (x5 + 2)) x3) then (if (Int.tmod (wrap64 (x5 + 2)) x3) < (x0.length : Int) then (if (((rd_T78 x0 x5).f0) == ((rd_T78 x0 (Int.tmod (wrap64 (x5 + 1)) x3)).f0) && (((rd_T78 x0 x5).f1) == ((rd_T78 x0 (Int.tmod (wrap64 (x5 + 1)) x3)).f1))) = true then (spec_l03Ok.j3 k x0 x3 x5 true ((rd_T78 x0 x5).f0) ((rd_T78 x0 x5).f1) ((rd_T78 x0 (Int.tmod (wrap64 (x5 + 1)) x3)).f0) ((rd_T78 x0 (Int.tmod (wrap64 (x5 + 1)) x3)).f1)) else ((spec_l02On.f ((rd_T78 x0 x5).f0) ((rd_T78 x0 x5).f1) ((rd_T78 x0 (Int.tmod (wrap64 (x5 + 1)) x3)).f0) ((rd_T78 x0 (Int.tmod (wrap64 (x5 + 1)) x3)).f1) ((rd_T78 x0 (Int.tmod (wrap64 (x5 + 2)) x3)).f0) ((rd_T78 x0 (Int.tmod (wrap64 (x5 + 2)) x3)).f1)).bind fun t239 => (if t239 = true then (spec_l03Ok.j3 k x0 x3 x5 true ((rd_T78 x0 x5).f0) ((rd_T78 x0 x5).f1) ((rd_T78 x0 (Int.tmod (wrap64 (x5 + 1)) x3)).f0) ((rd_T78 x0 (Int.tmod (wrap64 (x5 + 1)) x3)).f1)) else ((spec_l02On.f ((rd_T78 x0 (Int.tmod (wrap64 (x5 + 1)) x3)).f0) ((rd_T78 x0 (Int.tmod (wrap64 (x5 + 1)) x3)).f1) ((rd_T78 x0 (Int.tmod (wrap64 (x5 + 2)) x3)).f0) ((rd_T78 x0 (Int.tmod (wrap64 (x5 + 2)) x3)).f1) ((rd_T78 x0 x5).f0) ((rd_T78 x0 x5).f1)).bind fun t240 => (spec_l03Ok.j3 k x0 x3 x5 t240 ((rd_T78 x0 x5).f0) ((rd_T78 x0 x5).f1) ((rd_T78 x0 (Int.tmod (wrap64 (x5 + 1)) x3)).f0) ((rd_T78 x0 (Int.tmod (wrap64 (x5 + 1)) x3)).f1)))))) else (none)) else (none)) else (none)) else (none))) else (none)) else (none)) else ((spec_l03Area.f k x0).bind fun t232 => (some (decide (t232 > 0))))
def spec_l03Ok.j3 : Nat → List (S78) → Int → Int → Bool → Int → Int → Int → Int → Option (Bool)
 | 0,_,_,_,_,_,_,_,_ => none
 | k + 1,x0,x3,x5,x66,x235000,x235001,x237000,x237001 => if x66 = true then (some false) else (spec_l03Ok.l2 k x0 x3 x5 (wrap64 (x5 + 2)) x235000 x235001 x237000 x237001)
def spec_l03Ok.l2 : Nat → List (S78) → Int → Int → Int → Int → Int → Int → Int → Option (Bool)
 | 0,_,_,_,_,_,_,_,_ => none
 | k + 1,x0,x3,x5,x9,x235000,x235001,x237000,x237001 => if x9 < x3 then (if x3 = 0 then (none) else (if (Int.tmod (wrap64 (x9 + 1)) x3) = x5 then (spec_l03Ok.l2 k x0 x3 x5 (wrap64 (x9 + 1)) x235000 x235001 x237000 x237001) else (if 0 ≤ x9 then (if x9 < (x0.length : Int) then (if 0 ≤ (Int.tmod (wrap64 (x9 + 1)) x3) then (if (Int.tmod (wrap64 (x9 + 1)) x3) < (x0.length : Int) then ((spec_l03Meet.f x235000 x235001 x237000 x237001 ((rd_T78 x0 x9).f0) ((rd_T78 x0 x9).f1) ((rd_T78 x0 (Int.tmod (wrap64 (x9 + 1)) x3)).f0) ((rd_T78 x0 (Int.tmod (wrap64 (x9 + 1)) x3)).f1)).bind fun t243 => (if t243 = true then (some false) else (spec_l03Ok.l2 k x0 x3 x5 (wrap64 (x9 + 1)) x235000 x235001 x237000 x237001))) else (none)) else (none)) else (none)) else (none)))) else (spec_l03Ok.l1 k x0 x3 (wrap64 (x5 + 1)))
end
def spec_l03Ok.f (k : Nat) (l0 : List (S78)) : Option (Bool):=if (l0.length : Int) < 3 then (spec_l03Ok.j0 k l0 (l0.length : Int) true) else (spec_l03Ok.j0 k l0 (l0.length : Int) (decide ((l0.length : Int) > 24)))
def spec_l03Ok.T20 : Bool × List (List Nat × List Nat):=(true,[([],[]),([0],[0]),([],[]),([1,2],[1,2]),([],[]),([3,4],[3,4]),([5],[5]),([6],[6]),([6],[6]),([6],[6]),([6],[6]),([9,10,6],[6,9,10]),([11,6],[6,11]),([6],[6]),([6],[6]),([14,6],[6,14]),([6],[6]),([15,16,6],[6,15,16]),([13,17,6],[6,13,17]),([18,6],[6,18]),([7,8,12,19,6,6],[6,7,8,12,19]),([6,20],[6,20])])
def spec_l03Ok.B20 : List Nat:=[0,1,0,7,0,31,63,127,127,127,127,1663,3711,127,127,16511,127,114815,254079,516223,1048575,2097151]
theorem spec_l03Ok.tab20 : rtab .any (opsOf Try.f42 20) = spec_l03Ok.T20:=by kernel_rfl
theorem spec_l03Ok.bits20 : waitsOk spec_l03Ok.T20.2 spec_l03Ok.B20 = true:=by kernel_rfl
set_option maxHeartbeats 8000000 in
set_option maxRecDepth 100000 in
theorem spec_l03Ok.calls (k : Nat) (A0 : Option Addr) (c0 : Nat) (l0 : List (S78)) (r : Bool) (w : World) (hr0 : Kd.C k78 w A0 l0.length l0) (hc0 : l0.length ≤ c0) (h : spec_l03Ok.f k l0 = some r) :
  Calls Try.prog 42 #[.slice A0 l0.length c0] w fun e w' => e = .returned (.bool r) ∧ Below w.heap.size w w':=by
 have hu78:=Try.underlying78
 have HR0:=Aside0.mk hr0
 have HC0:=Aside0.mk hc0
 clear hr0 hc0
 have HB:=Aside0.mk (Below.refl w.heap.size w)
 have H : (if (l0.length : Int) < 3 then (spec_l03Ok.j0 k l0 (l0.length : Int) true) else (spec_l03Ok.j0 k l0 (l0.length : Int) (decide ((l0.length : Int) > 24)))) = some r:=h
 clear h
 have HC2:=Aside0.mk H
 clear H
 go_enter Try.func42,Try.ntmps42
 go_upto_region 2 with (fail)
 go_cut [17] (fun v17 wc => ∃ (kq : Nat) (x17_1 : Bool),v17 = .bool x17_1 ∧ Aside0 (spec_l03Ok.j0 kq l0 (l0.length : Int) x17_1 = some r) ∧ Aside0 (kq ≤ k) ∧ Aside0 (Below w.heap.size w wc))
 case first =>
  have H:=HC2.out
  clear HC2
  by_cases c3 : (l0.length : Int) < 3
  ·rw [if_pos c3] at H
   have c3b0 : decide ((l0.length : Int) < 3) = true:=decide_eq_true c3
   have c3b1 : decide (l0.length < 3) = true:=decide_eq_true (by omega)
   clear c3
   (first | rw [c3b0] | (simp only [i64_w,i32_w];rw [c3b0]) | skip)
   have H':=Aside0.mk H
   clear H
   go_wp2
   go_meet
   case rel => exact ⟨_,(true),(by first | rfl | (simp;done) | (simp [*];done)),H',⟨by first | omega | exact Nat.le_refl _⟩,⟨ib⟩⟩
  ·rw [if_neg c3] at H
   have c3b0 : decide ((l0.length : Int) < 3) = false:=decide_eq_false c3
   have c3b1 : decide (l0.length < 3) = false:=decide_eq_false (by omega)
   clear c3
   (first | rw [c3b0] | (simp only [i64_w,i32_w];rw [c3b0]) | skip)
   have H':=Aside0.mk H
   clear H
   go_wp2
   go_meet
   case rel => exact ⟨_,(decide ((l0.length : Int) > 24)),(by first | rfl | (simp;done) | (simp [*];done)),H',⟨by first | omega | exact Nat.le_refl _⟩,⟨ib⟩⟩
 case rest =>
  clear HC2
  try clear p2
  try clear c3
  try clear c3b0
  try clear c3b1
  obtain ⟨kq,x17_1,rfl,HA,HJ1,HB⟩:=hcut
  cases kq with
  | zero => exact absurd HA.out (by simp [spec_l03Ok.j0])
  | succ kj1 =>
   have H:=HA.out
   clear HA
   simp only [spec_l03Ok.j0] at H
   by_cases c4 : x17_1 = true
   ·subst c4
    have H1 : (some false) = some r:=by rw [if_pos rfl] at H;exact H
    clear H
    have H:=H1
    clear H1
    obtain rfl:=Option.some.inj H
    go_wp2
    go_ret
    exact ⟨by first | rfl | (simp [errW_none,errW_some] <;> rfl) | (simp [*,errW_none,errW_some] <;> rfl),ib⟩
   ·replace c4:=Bool.eq_false_iff.mpr c4
    subst c4
    have H1 : (spec_l03Ok.l0 kj1 l0 (l0.length : Int) 0) = some r:=by rw [if_neg (show ¬ (false = true) by decide)] at H;exact H
    clear H
    have H:=H1
    clear H1
    have H':=Aside0.mk H
    clear H
    go_wp2
    go_loopg [4] kj1 (fun kq v4 w' => ∃ (x4_2 : Int),v4 = .int .i64 x4_2 ∧ Aside0 (spec_l03Ok.l0 kq l0 (l0.length : Int) x4_2 = some r) ∧ Aside0 (kq ≤ kj1) ∧ Aside0 (Below w.heap.size w w'))
    case atStart => exact ⟨(0),(by first | rfl | (simp;done) | (simp [*];done)),H',⟨Nat.le_refl _⟩,⟨ib⟩⟩
    case round =>
     clear H'
     try clear p2
     try clear c3
     try clear c3b0
     try clear c3b1
     try clear c4
     try clear p2
     obtain ⟨x4_2,rfl,HA,HK2,HB⟩:=hrel
     cases gk with
     | zero => exact absurd HA.out (by simp [spec_l03Ok.l0])
     | succ k2 =>
      have H:=HA.out
      clear HA
      simp only [spec_l03Ok.l0] at H
      by_cases c5 : x4_2 < (l0.length : Int)
      ·rw [if_pos c5] at H
       have c5b0 : decide (x4_2 < (l0.length : Int)) = true:=decide_eq_true c5
       clear c5
       by_cases c6 : 0 ≤ x4_2
       ·rw [if_pos c6] at H
        have c6b0 : decide (0 ≤ x4_2) = true:=decide_eq_true c6
        clear c6
        by_cases c7 : x4_2 < (l0.length : Int)
        ·rw [if_pos c7] at H
         have c7b0 : decide (x4_2 < (l0.length : Int)) = true:=decide_eq_true c7
         clear c7
         replace H:=bE.mp H
         obtain ⟨t231,A80,H⟩:=H
         replace H : (if t231 = true then (spec_l03Ok.l0 k2 l0 (l0.length : Int) (wrap64 (x4_2 + 1))) else (some false)) = some r:=H
         have A8:=Aside0.mk A80
         clear A80
         by_cases c9 : t231 = true
         ·subst c9
          have H1 : (spec_l03Ok.l0 k2 l0 (l0.length : Int) (wrap64 (x4_2 + 1))) = some r:=by rw [if_pos rfl] at H;exact H
          clear H
          have H:=H1
          clear H1
          have H':=Aside0.mk H
          clear H
          have p230 : 0 ≤ (x4_2 : Int):=da
          have q230 : x4_2 < (l0.length : Int):=da
          obtain ⟨ad230,e230,hx230_0,hx230_1⟩:=at_T78 HR0.out x4_2 p230 q230
          cases e230
          replace hx230_0:=cq HB.out hx230_0
          replace hx230_1:=cq HB.out hx230_1
          replace p230:=eq_true p230
          replace q230:=eq_true q230
          go_wp2_with (first | ((with_reducible refine gate_callee (f:=63) rfl ?_);refine goesL_ (some 27) rfl rfl Try.func63 (by kernel_rfl) rfl #[.agg #[.int .i64 ((rd_T78 l0 x4_2).f0),.int .i64 ((rd_T78 l0 x4_2).f1)]] rfl (by (try simp only [mT,mC,mN]);first | done | rfl | (simp only [lD,lT];rfl)) ?_;(with_reducible refine (spec_l02Ok.calls ((rd_T78 l0 x4_2).f0) ((rd_T78 l0 x4_2).f1) true _ A8.out).mono ?_);rintro e w10 ⟨rfl,hb⟩;refine ⟨_,rfl,?_⟩;replace HB:=sb hb;(try clear hb);(try clear hb2);(try clear hk);(try clear hi)))
          go_roundg k2
          case measure => have:=HJ1.out;have:=HK2.out;omega
          case rel => exact ⟨(wrap64 (x4_2 + 1)),(by first | rfl | (simp;done) | (simp [*];done)),H',⟨by have:=HJ1.out;have:=HK2.out;omega⟩,⟨ib⟩⟩
         ·replace c9:=Bool.eq_false_iff.mpr c9
          subst c9
          have H1 : (some false) = some r:=by rw [if_neg (show ¬ (false = true) by decide)] at H;exact H
          clear H
          have H:=H1
          clear H1
          obtain rfl:=Option.some.inj H
          have p230 : 0 ≤ (x4_2 : Int):=da
          have q230 : x4_2 < (l0.length : Int):=da
          obtain ⟨ad230,e230,hx230_0,hx230_1⟩:=at_T78 HR0.out x4_2 p230 q230
          cases e230
          replace hx230_0:=cq HB.out hx230_0
          replace hx230_1:=cq HB.out hx230_1
          replace p230:=eq_true p230
          replace q230:=eq_true q230
          go_wp2_with (first | ((with_reducible refine gate_callee (f:=63) rfl ?_);refine goesL_ (some 27) rfl rfl Try.func63 (by kernel_rfl) rfl #[.agg #[.int .i64 ((rd_T78 l0 x4_2).f0),.int .i64 ((rd_T78 l0 x4_2).f1)]] rfl (by (try simp only [mT,mC,mN]);first | done | rfl | (simp only [lD,lT];rfl)) ?_;(with_reducible refine (spec_l02Ok.calls ((rd_T78 l0 x4_2).f0) ((rd_T78 l0 x4_2).f1) false _ A8.out).mono ?_);rintro e w11 ⟨rfl,hb⟩;refine ⟨_,rfl,?_⟩;replace HB:=sb hb;(try clear hb);(try clear hb2);(try clear hk);(try clear hi)))
          go_ret
          exact ⟨by first | rfl | (simp [errW_none,errW_some] <;> rfl) | (simp [*,errW_none,errW_some] <;> rfl),ib⟩
        ·first | (exfalso;have z_:=of_decide_eq_true c5b0;omega) | (rw [if_neg c7] at H;exact absurd H (by simp))
       ·rw [if_neg c6] at H
        exact absurd H (by simp)
      ·rw [if_neg c5] at H
       have c5b0 : decide (x4_2 < (l0.length : Int)) = false:=decide_eq_false c5
       clear c5
       have H':=Aside0.mk H
       clear H
       go_wp2
       go_loopg [5] k2 (fun kq v5 w' => ∃ (x5_3 : Int),v5 = .int .i64 x5_3 ∧ Aside0 (spec_l03Ok.l1 kq l0 (l0.length : Int) x5_3 = some r) ∧ Aside0 (kq ≤ k2) ∧ Aside0 (Below w.heap.size w w'))
       case atStart => exact ⟨(0),(by first | rfl | (simp;done) | (simp [*];done)),H',⟨Nat.le_refl _⟩,⟨ib⟩⟩
       case round =>
        clear H'
        try clear p2
        try clear q2
        try clear hx2
        try clear c3
        try clear c3b0
        try clear c3b1
        try clear c4
        try clear c5
        try clear c5b0
        try clear c6
        try clear c6b0
        try clear p6
        try clear c7
        try clear c7b0
        try clear c9
        try clear hx230_0
        try clear hx230_1
        try clear p2
        try clear p230
        try clear q230
        obtain ⟨x5_3,rfl,HA,HK3,HB⟩:=hrel
        cases gk with
        | zero => exact absurd HA.out (by simp [spec_l03Ok.l1])
        | succ k3 =>
         have H:=HA.out
         clear HA
         simp only [spec_l03Ok.l1] at H
         by_cases c12 : x5_3 < (l0.length : Int)
         ·rw [if_pos c12] at H
          have c12b0 : decide (x5_3 < (l0.length : Int)) = true:=decide_eq_true c12
          clear c12
          by_cases c13 : 0 ≤ x5_3
          ·rw [if_pos c13] at H
           have c13b0 : decide (0 ≤ x5_3) = true:=decide_eq_true c13
           clear c13
           by_cases c14 : x5_3 < (l0.length : Int)
           ·rw [if_pos c14] at H
            have c14b0 : decide (x5_3 < (l0.length : Int)) = true:=decide_eq_true c14
            clear c14
            by_cases c15 : (l0.length : Int) = 0
            ·rw [if_pos c15] at H
             exact absurd H (by simp)
            ·rw [if_neg c15] at H
             have c15b0 : ((l0.length : Int) == 0) = false:=beq_eq_false_iff_ne.mpr c15
             have c15b1 : ((l0.length : Int) != 0) = true:=bne_iff_ne.mpr c15
             have c15b2 : ¬ (l0 = []):=fun h_ => c15 (by rw [h_];rfl)
             obtain ⟨ji16,hji16⟩ : ∃ j_ : Int,(Int.tmod (wrap64 (x5_3 + 1)) (l0.length : Int)) = j_:=⟨_,rfl⟩
             replace H : (if 0 ≤ (ji16) then (if (ji16) < (l0.length : Int) then (if 0 ≤ (Int.tmod (wrap64 (x5_3 + 2)) (l0.length : Int)) then (if (Int.tmod (wrap64 (x5_3 + 2)) (l0.length : Int)) < (l0.length : Int) then (if (((rd_T78 l0 x5_3).f0) == ((rd_T78 l0 (ji16)).f0) && (((rd_T78 l0 x5_3).f1) == ((rd_T78 l0 (ji16)).f1))) = true then (spec_l03Ok.j3 k3 l0 (l0.length : Int) x5_3 true ((rd_T78 l0 x5_3).f0) ((rd_T78 l0 x5_3).f1) ((rd_T78 l0 (ji16)).f0) ((rd_T78 l0 (ji16)).f1)) else ((spec_l02On.f ((rd_T78 l0 x5_3).f0) ((rd_T78 l0 x5_3).f1) ((rd_T78 l0 (ji16)).f0) ((rd_T78 l0 (ji16)).f1) ((rd_T78 l0 (Int.tmod (wrap64 (x5_3 + 2)) (l0.length : Int))).f0) ((rd_T78 l0 (Int.tmod (wrap64 (x5_3 + 2)) (l0.length : Int))).f1)).bind fun t239 => (if t239 = true then (spec_l03Ok.j3 k3 l0 (l0.length : Int) x5_3 true ((rd_T78 l0 x5_3).f0) ((rd_T78 l0 x5_3).f1) ((rd_T78 l0 (ji16)).f0) ((rd_T78 l0 (ji16)).f1)) else ((spec_l02On.f ((rd_T78 l0 (ji16)).f0) ((rd_T78 l0 (ji16)).f1) ((rd_T78 l0 (Int.tmod (wrap64 (x5_3 + 2)) (l0.length : Int))).f0) ((rd_T78 l0 (Int.tmod (wrap64 (x5_3 + 2)) (l0.length : Int))).f1) ((rd_T78 l0 x5_3).f0) ((rd_T78 l0 x5_3).f1)).bind fun t240 => (spec_l03Ok.j3 k3 l0 (l0.length : Int) x5_3 t240 ((rd_T78 l0 x5_3).f0) ((rd_T78 l0 x5_3).f1) ((rd_T78 l0 (ji16)).f0) ((rd_T78 l0 (ji16)).f1)))))) else (none)) else (none)) else (none)) else (none)) = some r:=by first | (rw [hji16] at H;exact H) | (simp only [hji16] at H ⊢;exact H)
             by_cases c17 : 0 ≤ (ji16)
             ·rw [if_pos c17] at H
              have c17b0 : decide (0 ≤ (ji16)) = true:=decide_eq_true c17
              clear c17
              by_cases c18 : (ji16) < (l0.length : Int)
              ·rw [if_pos c18] at H
               have c18b0 : decide ((ji16) < (l0.length : Int)) = true:=decide_eq_true c18
               clear c18
               obtain ⟨ji19,hji19⟩ : ∃ j_ : Int,(Int.tmod (wrap64 (x5_3 + 2)) (l0.length : Int)) = j_:=⟨_,rfl⟩
               replace H : (if 0 ≤ (ji19) then (if (ji19) < (l0.length : Int) then (if (((rd_T78 l0 x5_3).f0) == ((rd_T78 l0 (ji16)).f0) && (((rd_T78 l0 x5_3).f1) == ((rd_T78 l0 (ji16)).f1))) = true then (spec_l03Ok.j3 k3 l0 (l0.length : Int) x5_3 true ((rd_T78 l0 x5_3).f0) ((rd_T78 l0 x5_3).f1) ((rd_T78 l0 (ji16)).f0) ((rd_T78 l0 (ji16)).f1)) else ((spec_l02On.f ((rd_T78 l0 x5_3).f0) ((rd_T78 l0 x5_3).f1) ((rd_T78 l0 (ji16)).f0) ((rd_T78 l0 (ji16)).f1) ((rd_T78 l0 (ji19)).f0) ((rd_T78 l0 (ji19)).f1)).bind fun t239 => (if t239 = true then (spec_l03Ok.j3 k3 l0 (l0.length : Int) x5_3 true ((rd_T78 l0 x5_3).f0) ((rd_T78 l0 x5_3).f1) ((rd_T78 l0 (ji16)).f0) ((rd_T78 l0 (ji16)).f1)) else ((spec_l02On.f ((rd_T78 l0 (ji16)).f0) ((rd_T78 l0 (ji16)).f1) ((rd_T78 l0 (ji19)).f0) ((rd_T78 l0 (ji19)).f1) ((rd_T78 l0 x5_3).f0) ((rd_T78 l0 x5_3).f1)).bind fun t240 => (spec_l03Ok.j3 k3 l0 (l0.length : Int) x5_3 t240 ((rd_T78 l0 x5_3).f0) ((rd_T78 l0 x5_3).f1) ((rd_T78 l0 (ji16)).f0) ((rd_T78 l0 (ji16)).f1)))))) else (none)) else (none)) = some r:=by first | (rw [hji19] at H;exact H) | (simp only [hji19] at H ⊢;exact H)
               by_cases c20 : 0 ≤ (ji19)
               ·rw [if_pos c20] at H
                have c20b0 : decide (0 ≤ (ji19)) = true:=decide_eq_true c20
                clear c20
                by_cases c21 : (ji19) < (l0.length : Int)
                ·rw [if_pos c21] at H
                 have c21b0 : decide ((ji19) < (l0.length : Int)) = true:=decide_eq_true c21
                 clear c21
                 have HC22:=Aside0.mk H
                 clear H
                 have p233 : 0 ≤ (x5_3 : Int):=da
                 have q233 : x5_3 < (l0.length : Int):=da
                 obtain ⟨ad233,e233,hx233_0,hx233_1⟩:=at_T78 HR0.out x5_3 p233 q233
                 cases e233
                 replace hx233_0:=cq HB.out hx233_0
                 replace hx233_1:=cq HB.out hx233_1
                 replace p233:=eq_true p233
                 replace q233:=eq_true q233
                 go_upto_region 15 with (first | ((with_reducible refine gate_dst (N:=6) rfl ?_);refine bx (cs:=#[.int .i64 0,.int .i64 0]) (t:=78) ?_;intro gb234 hg w23 hbox hb;have BK234:=Aside0.mk (hbox);have GW234:=zb hg;have GE234:=zb hg;replace HB:=sb hb;clear hb hbox hg;have hcz24_0:=ck BK234 0;have hcz24_1:=ck BK234 1;have hfz24_0:=blk_frozen BK234.out 0;have hfz24_1:=blk_frozen BK234.out 1;have p235 : 0 ≤ ((ji16) : Int):=da;have q235 : (ji16) < (l0.length : Int):=da;obtain ⟨ad235,e235,hx235_0,hx235_1⟩:=at_T78 HR0.out (ji16) p235 q235;obtain rfl : ad233 = ad235:=(by injection e235);have hn235_0 : ad233.block ≠ gb234:=nw hx235_0 GW234;have hn235_1 : ad233.block ≠ gb234:=nw hx235_0 GW234;replace hx235_0:=cq HB.out hx235_0;replace hx235_1:=cq HB.out hx235_1;replace hx235_0:=cf hn235_0 hx235_0 0 (.int .i64 ((rd_T78 l0 x5_3).f0));replace hx235_1:=cf hn235_0 hx235_1 0 (.int .i64 ((rd_T78 l0 x5_3).f0));replace hx235_0:=cf hn235_1 hx235_0 1 (.int .i64 ((rd_T78 l0 x5_3).f1));replace hx235_1:=cf hn235_1 hx235_1 1 (.int .i64 ((rd_T78 l0 x5_3).f1));clear hn235_0;clear hn235_1;replace p235:=eq_true p235;replace q235:=eq_true q235) | ((with_reducible refine gate_dst (N:=7) rfl ?_);refine bx (cs:=#[.int .i64 0,.int .i64 0]) (t:=78) ?_;intro gb236 hg w25 hbox hb;have z0_:=mz hb (g:=gb234) (o:=.cells #[.int .i64 ((rd_T78 l0 x5_3).f0),.int .i64 ((rd_T78 l0 x5_3).f1)] 78 (0,0)) (by refine bP (cs:=#[.int .i64 ((rd_T78 l0 x5_3).f0),.int .i64 0]) 1 ?_;refine bP (cs:=#[.int .i64 0,.int .i64 0]) 0 ?_;exact bk BK234);have n0_:=kc z0_ hb;have n1_:=sb hb;have n2_:=Aside0.mk (hbox);have n3_:=zb hg;have n4_:=zb hg;have n5_:=nm z0_ hg;have n6_:=nn z0_ hg;clear BK234;clear HB;have BK234:=n0_;have HB:=n1_;have BK236:=n2_;have GW236:=n3_;have GE236:=n4_;have NB234_236:=n5_;have NB236_234:=n6_;clear z0_ n0_ n1_ n2_ n3_ n4_ n5_ n6_;clear hb hbox hg;have hnb26:=NB236_234.out;have hnc26:=NB234_236.out;have hcz27_0:=ck BK236 0;have hcz27_1:=ck BK236 1;have hfz27_0:=blk_frozen BK236.out 0;have hfz27_1:=blk_frozen BK236.out 1;have p237 : 0 ≤ ((ji19) : Int):=da;have q237 : (ji19) < (l0.length : Int):=da;obtain ⟨ad237,e237,hx237_0,hx237_1⟩:=at_T78 HR0.out (ji19) p237 q237;obtain rfl : ad233 = ad237:=(by injection e237);have hn237_0 : ad233.block ≠ gb236:=nw hx237_0 GW236;have hn237_1 : ad233.block ≠ gb236:=nw hx237_0 GW236;replace hx237_0:=cq HB.out hx237_0;replace hx237_1:=cq HB.out hx237_1;replace hx237_0:=cf hn237_0 hx237_0 0 (.int .i64 ((rd_T78 l0 (ji16)).f0));replace hx237_1:=cf hn237_0 hx237_1 0 (.int .i64 ((rd_T78 l0 (ji16)).f0));replace hx237_0:=cf hn237_1 hx237_0 1 (.int .i64 ((rd_T78 l0 (ji16)).f1));replace hx237_1:=cf hn237_1 hx237_1 1 (.int .i64 ((rd_T78 l0 (ji16)).f1));clear hn237_0;clear hn237_1;replace p237:=eq_true p237;replace q237:=eq_true q237) | ((with_reducible refine gate_dst (N:=8) rfl ?_);refine bx (cs:=#[.int .i64 0,.int .i64 0]) (t:=78) ?_;intro gb238 hg w28 hbox hb;have z0_:=mz hb (g:=gb234) (o:=.cells #[.int .i64 ((rd_T78 l0 x5_3).f0),.int .i64 ((rd_T78 l0 x5_3).f1)] 78 (0,0)) (by refine bF NB234_236.out ?_;refine bF NB234_236.out ?_;exact bk BK234);have n0_:=kc z0_ hb;have z1_:=mz hb (g:=gb236) (o:=.cells #[.int .i64 ((rd_T78 l0 (ji16)).f0),.int .i64 ((rd_T78 l0 (ji16)).f1)] 78 (0,0)) (by refine bP (cs:=#[.int .i64 ((rd_T78 l0 (ji16)).f0),.int .i64 0]) 1 ?_;refine bP (cs:=#[.int .i64 0,.int .i64 0]) 0 ?_;exact bk BK236);have n1_:=kc z1_ hb;have n2_:=sb hb;have n3_:=Aside0.mk (hbox);have n4_:=zb hg;have n5_:=zb hg;have n6_:=nm z0_ hg;have n7_:=nn z0_ hg;have n8_:=nm z1_ hg;have n9_:=nn z1_ hg;clear BK234;clear BK236;clear HB;have BK234:=n0_;have BK236:=n1_;have HB:=n2_;have BK238:=n3_;have GW238:=n4_;have GE238:=n5_;have NB234_238:=n6_;have NB238_234:=n7_;have NB236_238:=n8_;have NB238_236:=n9_;clear z0_ z1_ n0_ n1_ n2_ n3_ n4_ n5_ n6_ n7_ n8_ n9_;clear hb hbox hg;have hnb29:=NB238_234.out;have hnc29:=NB234_238.out;have hnb30:=NB238_236.out;have hnc30:=NB236_238.out;have hcz31_0:=ck BK238 0;have hcz31_1:=ck BK238 1;have hfz31_0:=blk_frozen BK238.out 0;have hfz31_1:=blk_frozen BK238.out 1))
                 (try simp only [Act.put,List.setIfInBounds_toArray,List.set_cons_zero,List.set_cons_succ])
                 go_cut [66] (fun v66 wc => ∃ (kq : Nat) (x66_21 : Bool),v66 = .bool x66_21 ∧ Aside0 (spec_l03Ok.j3 kq l0 (l0.length : Int) x5_3 x66_21 ((rd_T78 l0 x5_3).f0) ((rd_T78 l0 x5_3).f1) ((rd_T78 l0 (ji16)).f0) ((rd_T78 l0 (ji16)).f1) = some r) ∧ Aside0 (kq ≤ k3) ∧ Aside0 (wc.heap[gb234]? = some (.cells #[.int .i64 ((rd_T78 l0 x5_3).f0),.int .i64 ((rd_T78 l0 x5_3).f1)] 78 (0,0))) ∧ Aside0 (wc.heap[gb236]? = some (.cells #[.int .i64 ((rd_T78 l0 (ji16)).f0),.int .i64 ((rd_T78 l0 (ji16)).f1)] 78 (0,0))) ∧ Aside0 (wc.heap[gb238]? = some (.cells #[.int .i64 ((rd_T78 l0 (ji19)).f0),.int .i64 ((rd_T78 l0 (ji19)).f1)] 78 (0,0))) ∧ Aside0 (Below w.heap.size w wc))
                 case first =>
                  have H:=HC22.out
                  clear HC22
                  by_cases c32 : (((rd_T78 l0 x5_3).f0) == ((rd_T78 l0 (ji16)).f0) && (((rd_T78 l0 x5_3).f1) == ((rd_T78 l0 (ji16)).f1))) = true
                  ·rw [if_pos c32] at H
                   have c32b0 : (((rd_T78 l0 x5_3).f0) == ((rd_T78 l0 (ji16)).f0) && (((rd_T78 l0 x5_3).f1) == ((rd_T78 l0 (ji16)).f1))) = true:=c32
                   (try (have c32b1 : decide (((rd_T78 l0 x5_3).f0) = ((rd_T78 l0 (ji16)).f0) && (((rd_T78 l0 x5_3).f1) == ((rd_T78 l0 (ji16)).f1))) = true:=by simpa using c32))
                   (try (have c32b2 : (((rd_T78 l0 x5_3).f0) == ((rd_T78 l0 (ji16)).f0) && (((rd_T78 l0 x5_3).f1) == ((rd_T78 l0 (ji16)).f1))) = true:=by simpa using c32))
                   clear c32
                   (first | rw [c32b0] | (simp only [i64_w,i32_w];rw [c32b0]) | skip)
                   have H':=Aside0.mk H
                   clear H
                   have hnb33:=NB234_236.out
                   have hnc33:=NB236_234.out
                   have hnb34:=NB234_238.out
                   have hnc34:=NB238_234.out
                   have hcz35_0:=ck BK234 0
                   have hcz35_1:=ck BK234 1
                   have hfz35_0:=blk_frozen BK234.out 0
                   have hfz35_1:=blk_frozen BK234.out 1
                   have hnb36:=NB236_238.out
                   have hnc36:=NB238_236.out
                   have hcz37_0:=ck BK236 0
                   have hcz37_1:=ck BK236 1
                   have hfz37_0:=blk_frozen BK236.out 0
                   have hfz37_1:=blk_frozen BK236.out 1
                   go_wp2
                   go_meet
                   case rel => exact ⟨_,(true),(by first | rfl | (simp;done) | (simp [*];done)),H',⟨by have:=HJ1.out;have:=HK2.out;have:=HK3.out;first | omega | exact Nat.le_refl _⟩,⟨by refine bF NB234_238.out ?_;refine bF NB234_238.out ?_;exact bk BK234⟩,⟨by refine bF NB236_238.out ?_;refine bF NB236_238.out ?_;exact bk BK236⟩,⟨by refine bP (cs:=#[.int .i64 ((rd_T78 l0 (ji19)).f0),.int .i64 0]) 1 ?_;refine bP (cs:=#[.int .i64 0,.int .i64 0]) 0 ?_;exact bk BK238⟩,⟨ib⟩⟩
                  ·rw [if_neg c32] at H
                   have c32b0 : (((rd_T78 l0 x5_3).f0) == ((rd_T78 l0 (ji16)).f0) && (((rd_T78 l0 x5_3).f1) == ((rd_T78 l0 (ji16)).f1))) = false:=by simpa using c32
                   (try (have c32b1 : decide (((rd_T78 l0 x5_3).f0) = ((rd_T78 l0 (ji16)).f0) && (((rd_T78 l0 x5_3).f1) == ((rd_T78 l0 (ji16)).f1))) = false:=by simpa using c32))
                   (try (have c32b2 : (((rd_T78 l0 x5_3).f0) == ((rd_T78 l0 (ji16)).f0) && (((rd_T78 l0 x5_3).f1) == ((rd_T78 l0 (ji16)).f1))) = false:=by simpa using c32))
                   (try (have c32b3 : ¬ (((rd_T78 l0 x5_3).f0) = ((rd_T78 l0 (ji16)).f0) && (((rd_T78 l0 x5_3).f1) == ((rd_T78 l0 (ji16)).f1))):=by simpa using c32))
                   clear c32
                   (first | rw [c32b0] | (simp only [i64_w,i32_w];rw [c32b0]) | skip)
                   replace H:=bE.mp H
                   obtain ⟨t239,A380,H⟩:=H
                   replace H : (if t239 = true then (spec_l03Ok.j3 k3 l0 (l0.length : Int) x5_3 true ((rd_T78 l0 x5_3).f0) ((rd_T78 l0 x5_3).f1) ((rd_T78 l0 (ji16)).f0) ((rd_T78 l0 (ji16)).f1)) else ((spec_l02On.f ((rd_T78 l0 (ji16)).f0) ((rd_T78 l0 (ji16)).f1) ((rd_T78 l0 (ji19)).f0) ((rd_T78 l0 (ji19)).f1) ((rd_T78 l0 x5_3).f0) ((rd_T78 l0 x5_3).f1)).bind fun t240 => (spec_l03Ok.j3 k3 l0 (l0.length : Int) x5_3 t240 ((rd_T78 l0 x5_3).f0) ((rd_T78 l0 x5_3).f1) ((rd_T78 l0 (ji16)).f0) ((rd_T78 l0 (ji16)).f1)))) = some r:=H
                   have A38:=Aside0.mk A380
                   clear A380
                   by_cases c39 : t239 = true
                   ·subst c39
                    have H1 : (spec_l03Ok.j3 k3 l0 (l0.length : Int) x5_3 true ((rd_T78 l0 x5_3).f0) ((rd_T78 l0 x5_3).f1) ((rd_T78 l0 (ji16)).f0) ((rd_T78 l0 (ji16)).f1)) = some r:=by rw [if_pos rfl] at H;exact H
                    clear H
                    have H:=H1
                    clear H1
                    have H':=Aside0.mk H
                    clear H
                    have hnb40:=NB234_236.out
                    have hnc40:=NB236_234.out
                    have hnb41:=NB234_238.out
                    have hnc41:=NB238_234.out
                    have hcz42_0:=ck BK234 0
                    have hcz42_1:=ck BK234 1
                    have hfz42_0:=blk_frozen BK234.out 0
                    have hfz42_1:=blk_frozen BK234.out 1
                    have hnb43:=NB236_238.out
                    have hnc43:=NB238_236.out
                    have hcz44_0:=ck BK236 0
                    have hcz44_1:=ck BK236 1
                    have hfz44_0:=blk_frozen BK236.out 0
                    have hfz44_1:=blk_frozen BK236.out 1
                    have hcz45_0:=ck BK238 0
                    have hcz45_1:=ck BK238 1
                    have hfz45_0:=blk_frozen BK238.out 0
                    have hfz45_1:=blk_frozen BK238.out 1
                    go_wp2_with (first | (go_at_call 64;(with_reducible refine (spec_l02On.calls ((rd_T78 l0 x5_3).f0) ((rd_T78 l0 x5_3).f1) ((rd_T78 l0 (ji16)).f0) ((rd_T78 l0 (ji16)).f1) ((rd_T78 l0 (ji19)).f0) ((rd_T78 l0 (ji19)).f1) true _ A38.out).mono ?_);rintro e w46 ⟨rfl,hb⟩;replace BK234:=Aside0.mk (blk_below (g:=gb234) (o:=.cells #[.int .i64 ((rd_T78 l0 x5_3).f0),.int .i64 ((rd_T78 l0 x5_3).f1)] 78 (0,0)) (by refine bF NB234_238.out ?_;refine bF NB234_238.out ?_;exact bk BK234) hb);replace BK236:=Aside0.mk (blk_below (g:=gb236) (o:=.cells #[.int .i64 ((rd_T78 l0 (ji16)).f0),.int .i64 ((rd_T78 l0 (ji16)).f1)] 78 (0,0)) (by refine bF NB236_238.out ?_;refine bF NB236_238.out ?_;exact bk BK236) hb);replace BK238:=Aside0.mk (blk_below (g:=gb238) (o:=.cells #[.int .i64 ((rd_T78 l0 (ji19)).f0),.int .i64 ((rd_T78 l0 (ji19)).f1)] 78 (0,0)) (by refine bP (cs:=#[.int .i64 ((rd_T78 l0 (ji19)).f0),.int .i64 0]) 1 ?_;refine bP (cs:=#[.int .i64 0,.int .i64 0]) 0 ?_;exact bk BK238) hb);replace HB:=sb hb;(try clear hb);(try clear hb2);(try clear hk);(try clear hi)))
                    go_meet
                    case rel => exact ⟨_,(true),(by first | rfl | (simp;done) | (simp [*];done)),H',⟨by have:=HJ1.out;have:=HK2.out;have:=HK3.out;first | omega | exact Nat.le_refl _⟩,⟨by exact bk BK234⟩,⟨by exact bk BK236⟩,⟨by exact bk BK238⟩,⟨ib⟩⟩
                   ·replace c39:=Bool.eq_false_iff.mpr c39
                    subst c39
                    have H1 : ((spec_l02On.f ((rd_T78 l0 (ji16)).f0) ((rd_T78 l0 (ji16)).f1) ((rd_T78 l0 (ji19)).f0) ((rd_T78 l0 (ji19)).f1) ((rd_T78 l0 x5_3).f0) ((rd_T78 l0 x5_3).f1)).bind fun t240 => (spec_l03Ok.j3 k3 l0 (l0.length : Int) x5_3 t240 ((rd_T78 l0 x5_3).f0) ((rd_T78 l0 x5_3).f1) ((rd_T78 l0 (ji16)).f0) ((rd_T78 l0 (ji16)).f1))) = some r:=by rw [if_neg (show ¬ (false = true) by decide)] at H;exact H
                    clear H
                    have H:=H1
                    clear H1
                    replace H:=bE.mp H
                    obtain ⟨t240,A470,H⟩:=H
                    replace H : (spec_l03Ok.j3 k3 l0 (l0.length : Int) x5_3 t240 ((rd_T78 l0 x5_3).f0) ((rd_T78 l0 x5_3).f1) ((rd_T78 l0 (ji16)).f0) ((rd_T78 l0 (ji16)).f1)) = some r:=H
                    have A47:=Aside0.mk A470
                    clear A470
                    have H':=Aside0.mk H
                    clear H
                    have hnb48:=NB234_236.out
                    have hnc48:=NB236_234.out
                    have hnb49:=NB234_238.out
                    have hnc49:=NB238_234.out
                    have hcz50_0:=ck BK234 0
                    have hcz50_1:=ck BK234 1
                    have hfz50_0:=blk_frozen BK234.out 0
                    have hfz50_1:=blk_frozen BK234.out 1
                    have hnb51:=NB236_238.out
                    have hnc51:=NB238_236.out
                    have hcz52_0:=ck BK236 0
                    have hcz52_1:=ck BK236 1
                    have hfz52_0:=blk_frozen BK236.out 0
                    have hfz52_1:=blk_frozen BK236.out 1
                    have hcz53_0:=ck BK238 0
                    have hcz53_1:=ck BK238 1
                    have hfz53_0:=blk_frozen BK238.out 0
                    have hfz53_1:=blk_frozen BK238.out 1
                    go_wp2_with (first | (go_at_call 64;(with_reducible refine (spec_l02On.calls ((rd_T78 l0 x5_3).f0) ((rd_T78 l0 x5_3).f1) ((rd_T78 l0 (ji16)).f0) ((rd_T78 l0 (ji16)).f1) ((rd_T78 l0 (ji19)).f0) ((rd_T78 l0 (ji19)).f1) false _ A38.out).mono ?_);rintro e w54 ⟨rfl,hb⟩;replace BK234:=Aside0.mk (blk_below (g:=gb234) (o:=.cells #[.int .i64 ((rd_T78 l0 x5_3).f0),.int .i64 ((rd_T78 l0 x5_3).f1)] 78 (0,0)) (by refine bF NB234_238.out ?_;refine bF NB234_238.out ?_;exact bk BK234) hb);replace BK236:=Aside0.mk (blk_below (g:=gb236) (o:=.cells #[.int .i64 ((rd_T78 l0 (ji16)).f0),.int .i64 ((rd_T78 l0 (ji16)).f1)] 78 (0,0)) (by refine bF NB236_238.out ?_;refine bF NB236_238.out ?_;exact bk BK236) hb);replace BK238:=Aside0.mk (blk_below (g:=gb238) (o:=.cells #[.int .i64 ((rd_T78 l0 (ji19)).f0),.int .i64 ((rd_T78 l0 (ji19)).f1)] 78 (0,0)) (by refine bP (cs:=#[.int .i64 ((rd_T78 l0 (ji19)).f0),.int .i64 0]) 1 ?_;refine bP (cs:=#[.int .i64 0,.int .i64 0]) 0 ?_;exact bk BK238) hb);replace HB:=sb hb;(try clear hb);(try clear hb2);(try clear hk);(try clear hi);have hcz55_0:=ck BK236 0;have hcz55_1:=ck BK236 1;have hfz55_0:=blk_frozen BK236.out 0;have hfz55_1:=blk_frozen BK236.out 1;have hcz56_0:=ck BK238 0;have hcz56_1:=ck BK238 1;have hfz56_0:=blk_frozen BK238.out 0;have hfz56_1:=blk_frozen BK238.out 1;have hcz57_0:=ck BK234 0;have hcz57_1:=ck BK234 1;have hfz57_0:=blk_frozen BK234.out 0;have hfz57_1:=blk_frozen BK234.out 1) | (go_at_call 64;(with_reducible refine (spec_l02On.calls ((rd_T78 l0 (ji16)).f0) ((rd_T78 l0 (ji16)).f1) ((rd_T78 l0 (ji19)).f0) ((rd_T78 l0 (ji19)).f1) ((rd_T78 l0 x5_3).f0) ((rd_T78 l0 x5_3).f1) t240 _ A47.out).mono ?_);rintro e w58 ⟨rfl,hb⟩;replace BK234:=kb BK234 hb;replace BK236:=kb BK236 hb;replace BK238:=kb BK238 hb;replace HB:=sb hb;(try clear hb);(try clear hb2);(try clear hk);(try clear hi)))
                    go_meet
                    case rel => exact ⟨_,(t240),(by first | rfl | (simp;done) | (simp [*];done)),H',⟨by have:=HJ1.out;have:=HK2.out;have:=HK3.out;first | omega | exact Nat.le_refl _⟩,⟨by exact bk BK234⟩,⟨by exact bk BK236⟩,⟨by exact bk BK238⟩,⟨ib⟩⟩
                 case rest =>
                  clear HC22
                  try clear c1
                  try clear c2
                  try clear p2
                  try clear q2
                  try clear hx2
                  try clear c3
                  try clear c3b0
                  try clear c3b1
                  try clear c4
                  try clear c5
                  try clear c5b0
                  try clear c6
                  try clear c6b0
                  try clear p6
                  try clear c7
                  try clear c7b0
                  try clear c9
                  try clear c12
                  try clear c12b0
                  try clear c13
                  try clear c13b0
                  try clear c14
                  try clear c14b0
                  try clear c15
                  try clear c15b0
                  try clear c15b1
                  try clear c15b2
                  try clear c17
                  try clear c17b0
                  try clear c18
                  try clear c18b0
                  try clear c20
                  try clear c20b0
                  try clear c21
                  try clear c21b0
                  try clear p23
                  try clear q23
                  try clear hx23
                  try clear c26
                  try clear c29
                  try clear c30
                  try clear c32
                  try clear c32b0
                  try clear c32b1
                  try clear c32b2
                  try clear c33
                  try clear c34
                  try clear c36
                  try clear c39
                  try clear c40
                  try clear c41
                  try clear c42
                  try clear c43
                  try clear c48
                  try clear c49
                  try clear c51
                  try clear hcz24_0
                  try clear hcz24_1
                  try clear hcz27_0
                  try clear hcz27_1
                  try clear hcz31_0
                  try clear hcz31_1
                  try clear hcz35_0
                  try clear hcz35_1
                  try clear hcz37_0
                  try clear hcz37_1
                  try clear hcz42_0
                  try clear hcz42_1
                  try clear hcz44_0
                  try clear hcz44_1
                  try clear hcz45_0
                  try clear hcz45_1
                  try clear hcz50_0
                  try clear hcz50_1
                  try clear hcz52_0
                  try clear hcz52_1
                  try clear hcz53_0
                  try clear hcz53_1
                  try clear hcz55_0
                  try clear hcz55_1
                  try clear hcz56_0
                  try clear hcz56_1
                  try clear hcz57_0
                  try clear hcz57_1
                  try clear hfz24_0
                  try clear hfz24_1
                  try clear hfz27_0
                  try clear hfz27_1
                  try clear hfz31_0
                  try clear hfz31_1
                  try clear hfz35_0
                  try clear hfz35_1
                  try clear hfz37_0
                  try clear hfz37_1
                  try clear hfz42_0
                  try clear hfz42_1
                  try clear hfz44_0
                  try clear hfz44_1
                  try clear hfz45_0
                  try clear hfz45_1
                  try clear hfz50_0
                  try clear hfz50_1
                  try clear hfz52_0
                  try clear hfz52_1
                  try clear hfz53_0
                  try clear hfz53_1
                  try clear hfz55_0
                  try clear hfz55_1
                  try clear hfz56_0
                  try clear hfz56_1
                  try clear hfz57_0
                  try clear hfz57_1
                  try clear hx230_0
                  try clear hx230_1
                  try clear hx233_0
                  try clear hx233_1
                  try clear hx235_0
                  try clear hx235_1
                  try clear hx237_0
                  try clear hx237_1
                  try clear p2
                  try clear p230
                  try clear p233
                  try clear p235
                  try clear p237
                  try clear p6
                  try clear q2
                  try clear q230
                  try clear q233
                  try clear q235
                  try clear q237
                  obtain ⟨kq,x66_21,rfl,HA,HJ21,BK234,BK236,BK238,HB⟩:=hcut
                  cases kq with
                  | zero => exact absurd HA.out (by simp [spec_l03Ok.j3])
                  | succ kj21 =>
                   have H:=HA.out
                   clear HA
                   simp only [spec_l03Ok.j3] at H
                   by_cases c59 : x66_21 = true
                   ·subst c59
                    have H1 : (some false) = some r:=by rw [if_pos rfl] at H;exact H
                    clear H
                    have H:=H1
                    clear H1
                    obtain rfl:=Option.some.inj H
                    go_wp2
                    go_ret
                    exact ⟨by first | rfl | (simp [errW_none,errW_some] <;> rfl) | (simp only [← hji16,← hji19];first | rfl | (simp [errW_none,errW_some] <;> rfl)) | (simp [*,errW_none,errW_some] <;> rfl),ib⟩
                   ·replace c59:=Bool.eq_false_iff.mpr c59
                    subst c59
                    have H1 : (spec_l03Ok.l2 kj21 l0 (l0.length : Int) x5_3 (wrap64 (x5_3 + 2)) ((rd_T78 l0 x5_3).f0) ((rd_T78 l0 x5_3).f1) ((rd_T78 l0 (ji16)).f0) ((rd_T78 l0 (ji16)).f1)) = some r:=by rw [if_neg (show ¬ (false = true) by decide)] at H;exact H
                    clear H
                    have H:=H1
                    clear H1
                    have H':=Aside0.mk H
                    clear H
                    go_wp2
                    go_loopg [9] kj21 (fun kq v9 w' => ∃ (x9_5 : Int),v9 = .int .i64 x9_5 ∧ Aside0 (spec_l03Ok.l2 kq l0 (l0.length : Int) x5_3 x9_5 ((rd_T78 l0 x5_3).f0) ((rd_T78 l0 x5_3).f1) ((rd_T78 l0 (ji16)).f0) ((rd_T78 l0 (ji16)).f1) = some r) ∧ Aside0 (kq ≤ kj21) ∧ Aside0 (w'.heap[gb234]? = some (.cells #[.int .i64 ((rd_T78 l0 x5_3).f0),.int .i64 ((rd_T78 l0 x5_3).f1)] 78 (0,0))) ∧ Aside0 (w'.heap[gb236]? = some (.cells #[.int .i64 ((rd_T78 l0 (ji16)).f0),.int .i64 ((rd_T78 l0 (ji16)).f1)] 78 (0,0))) ∧ Aside0 (w'.heap[gb238]? = some (.cells #[.int .i64 ((rd_T78 l0 (ji19)).f0),.int .i64 ((rd_T78 l0 (ji19)).f1)] 78 (0,0))) ∧ Aside0 (Below w.heap.size w w'))
                    case atStart => exact ⟨(wrap64 (x5_3 + 2)),(by first | rfl | (simp;done) | (simp [*];done)),H',⟨Nat.le_refl _⟩,⟨by exact bk BK234⟩,⟨by exact bk BK236⟩,⟨by exact bk BK238⟩,⟨ib⟩⟩
                    case round =>
                     clear H'
                     try clear c1
                     try clear c2
                     try clear p2
                     try clear q2
                     try clear hx2
                     try clear c3
                     try clear c3b0
                     try clear c3b1
                     try clear c4
                     try clear c5
                     try clear c5b0
                     try clear c6
                     try clear c6b0
                     try clear p6
                     try clear c7
                     try clear c7b0
                     try clear c9
                     try clear c12
                     try clear c12b0
                     try clear c13
                     try clear c13b0
                     try clear c14
                     try clear c14b0
                     try clear c15
                     try clear c15b0
                     try clear c15b1
                     try clear c15b2
                     try clear c17
                     try clear c17b0
                     try clear c18
                     try clear c18b0
                     try clear c20
                     try clear c20b0
                     try clear c21
                     try clear c21b0
                     try clear p23
                     try clear q23
                     try clear hx23
                     try clear c26
                     try clear c29
                     try clear c30
                     try clear c32
                     try clear c32b0
                     try clear c32b1
                     try clear c32b2
                     try clear c33
                     try clear c34
                     try clear c36
                     try clear c39
                     try clear c40
                     try clear c41
                     try clear c42
                     try clear c43
                     try clear c48
                     try clear c49
                     try clear c51
                     try clear c59
                     try clear hcz24_0
                     try clear hcz24_1
                     try clear hcz27_0
                     try clear hcz27_1
                     try clear hcz31_0
                     try clear hcz31_1
                     try clear hcz35_0
                     try clear hcz35_1
                     try clear hcz37_0
                     try clear hcz37_1
                     try clear hcz42_0
                     try clear hcz42_1
                     try clear hcz44_0
                     try clear hcz44_1
                     try clear hcz45_0
                     try clear hcz45_1
                     try clear hcz50_0
                     try clear hcz50_1
                     try clear hcz52_0
                     try clear hcz52_1
                     try clear hcz53_0
                     try clear hcz53_1
                     try clear hcz55_0
                     try clear hcz55_1
                     try clear hcz56_0
                     try clear hcz56_1
                     try clear hcz57_0
                     try clear hcz57_1
                     try clear hfz24_0
                     try clear hfz24_1
                     try clear hfz27_0
                     try clear hfz27_1
                     try clear hfz31_0
                     try clear hfz31_1
                     try clear hfz35_0
                     try clear hfz35_1
                     try clear hfz37_0
                     try clear hfz37_1
                     try clear hfz42_0
                     try clear hfz42_1
                     try clear hfz44_0
                     try clear hfz44_1
                     try clear hfz45_0
                     try clear hfz45_1
                     try clear hfz50_0
                     try clear hfz50_1
                     try clear hfz52_0
                     try clear hfz52_1
                     try clear hfz53_0
                     try clear hfz53_1
                     try clear hfz55_0
                     try clear hfz55_1
                     try clear hfz56_0
                     try clear hfz56_1
                     try clear hfz57_0
                     try clear hfz57_1
                     try clear hx230_0
                     try clear hx230_1
                     try clear hx233_0
                     try clear hx233_1
                     try clear hx235_0
                     try clear hx235_1
                     try clear hx237_0
                     try clear hx237_1
                     try clear p2
                     try clear p23
                     try clear p230
                     try clear p233
                     try clear p235
                     try clear p237
                     try clear p6
                     try clear q2
                     try clear q23
                     try clear q230
                     try clear q233
                     try clear q235
                     try clear q237
                     obtain ⟨x9_5,rfl,HA,HK5,BK234,BK236,BK238,HB⟩:=hrel
                     cases gk with
                     | zero => exact absurd HA.out (by simp [spec_l03Ok.l2])
                     | succ k5 =>
                      have H:=HA.out
                      clear HA
                      simp only [spec_l03Ok.l2] at H
                      by_cases c60 : x9_5 < (l0.length : Int)
                      ·rw [if_pos c60] at H
                       have c60b0 : decide (x9_5 < (l0.length : Int)) = true:=decide_eq_true c60
                       clear c60
                       by_cases c61 : (l0.length : Int) = 0
                       ·rw [if_pos c61] at H
                        exact absurd H (by simp)
                       ·rw [if_neg c61] at H
                        have c61b0 : ((l0.length : Int) == 0) = false:=beq_eq_false_iff_ne.mpr c61
                        have c61b1 : ((l0.length : Int) != 0) = true:=bne_iff_ne.mpr c61
                        have c61b2 : ¬ (l0 = []):=fun h_ => c61 (by rw [h_];rfl)
                        by_cases c62 : (Int.tmod (wrap64 (x9_5 + 1)) (l0.length : Int)) = x5_3
                        ·rw [if_pos c62] at H
                         have c62b0 : ((Int.tmod (wrap64 (x9_5 + 1)) (l0.length : Int)) == x5_3) = true:=beq_iff_eq.mpr c62
                         have c62b1 : ((Int.tmod (wrap64 (x9_5 + 1)) (l0.length : Int)) != x5_3) = false:=bne_eq_false_iff_eq.mpr c62
                         clear c62
                         have H':=Aside0.mk H
                         clear H
                         try go_wp2
                         replace BK234:=Aside0.mk (blk_drew BK234.out)
                         replace BK236:=Aside0.mk (blk_drew BK236.out)
                         replace BK238:=Aside0.mk (blk_drew BK238.out)
                         replace HB:=Aside0.mk (below_drew1 HB.out)
                         refine start_ (n:=22) (S:=fun w' => True) (ds:=[]) #[fF,fF,fF,fF,fF,fF,fF,fF,fF,fF,fF,fF,fF,fF,fF,fF,fF,fF,fF,fF,fF,fF] (by kernel_rfl) rfl rfl trivial (fun hHeld => ?_);refine with_tabW spec_l03Ok.tab20 spec_l03Ok.bits20 (fun HT_ HW_ => ?_)
                         generalize wr.drew = w63 at BK234 BK236 BK238 HB hHeld ⊢
                         refine pu 0 74 HT_ ?_
                         refine pu 1 75 HT_ ?_
                         refine pu 2 76 HT_ ?_
                         refine pu 3 77 HT_ ?_
                         refine pu 4 78 HT_ ?_
                         refine pu 5 79 HT_ ?_
                         refine pu 6 80 HT_ ?_
                         refine pd 7 81 HT_ ?_
                         refine pd 8 82 HT_ ?_
                         refine pd 9 83 HT_ ?_
                         refine pd 10 84 HT_ ?_
                         refine pd 11 85 HT_ ?_
                         refine pd 12 86 HT_ ?_
                         refine pd 13 87 HT_ ?_
                         refine pd 14 88 HT_ ?_
                         refine pd 15 89 HT_ ?_
                         refine pd 16 90 HT_ ?_
                         refine pd 17 91 HT_ ?_
                         refine pd 18 92 HT_ ?_
                         refine pd 19 93 HT_ ?_
                         refine pd 20 94 HT_ ?_
                         refine pu 21 95 HT_ ?_
                         refine done_ (done_of HT_.out (by kernel_rfl)) ?_
                         try go_wp2
                         go_roundg k5
                         case measure => have:=HJ1.out;have:=HK2.out;have:=HK3.out;have:=HJ21.out;have:=HK5.out;omega
                         case rel => exact ⟨(wrap64 (x9_5 + 1)),(by first | rfl | (simp;done) | (simp [*];done)),H',⟨by have:=HJ1.out;have:=HK2.out;have:=HK3.out;have:=HJ21.out;have:=HK5.out;omega⟩,⟨by exact bk BK234⟩,⟨by exact bk BK236⟩,⟨by exact bk BK238⟩,⟨ib⟩⟩
                        ·rw [if_neg c62] at H
                         have c62b0 : ((Int.tmod (wrap64 (x9_5 + 1)) (l0.length : Int)) == x5_3) = false:=beq_eq_false_iff_ne.mpr c62
                         have c62b1 : ((Int.tmod (wrap64 (x9_5 + 1)) (l0.length : Int)) != x5_3) = true:=bne_iff_ne.mpr c62
                         by_cases c64 : 0 ≤ x9_5
                         ·rw [if_pos c64] at H
                          have c64b0 : decide (0 ≤ x9_5) = true:=decide_eq_true c64
                          clear c64
                          by_cases c65 : x9_5 < (l0.length : Int)
                          ·rw [if_pos c65] at H
                           have c65b0 : decide (x9_5 < (l0.length : Int)) = true:=decide_eq_true c65
                           clear c65
                           obtain ⟨ji66,hji66⟩ : ∃ j_ : Int,(Int.tmod (wrap64 (x9_5 + 1)) (l0.length : Int)) = j_:=⟨_,rfl⟩
                           replace H : (if 0 ≤ (ji66) then (if (ji66) < (l0.length : Int) then ((spec_l03Meet.f ((rd_T78 l0 x5_3).f0) ((rd_T78 l0 x5_3).f1) ((rd_T78 l0 (ji16)).f0) ((rd_T78 l0 (ji16)).f1) ((rd_T78 l0 x9_5).f0) ((rd_T78 l0 x9_5).f1) ((rd_T78 l0 (ji66)).f0) ((rd_T78 l0 (ji66)).f1)).bind fun t243 => (if t243 = true then (some false) else (spec_l03Ok.l2 k5 l0 (l0.length : Int) x5_3 (wrap64 (x9_5 + 1)) ((rd_T78 l0 x5_3).f0) ((rd_T78 l0 x5_3).f1) ((rd_T78 l0 (ji16)).f0) ((rd_T78 l0 (ji16)).f1)))) else (none)) else (none)) = some r:=by first | (rw [hji66] at H;exact H) | (simp only [hji66] at H ⊢;exact H)
                           (try rw [hji66] at c62b0)
                           (try rw [hji66] at c62b1)
                           by_cases c67 : 0 ≤ (ji66)
                           ·rw [if_pos c67] at H
                            have c67b0 : decide (0 ≤ (ji66)) = true:=decide_eq_true c67
                            clear c67
                            by_cases c68 : (ji66) < (l0.length : Int)
                            ·rw [if_pos c68] at H
                             have c68b0 : decide ((ji66) < (l0.length : Int)) = true:=decide_eq_true c68
                             clear c68
                             replace H:=bE.mp H
                             obtain ⟨t243,A690,H⟩:=H
                             replace H : (if t243 = true then (some false) else (spec_l03Ok.l2 k5 l0 (l0.length : Int) x5_3 (wrap64 (x9_5 + 1)) ((rd_T78 l0 x5_3).f0) ((rd_T78 l0 x5_3).f1) ((rd_T78 l0 (ji16)).f0) ((rd_T78 l0 (ji16)).f1))) = some r:=H
                             have A69:=Aside0.mk A690
                             clear A690
                             by_cases c70 : t243 = true
                             ·subst c70
                              have H1 : (some false) = some r:=by rw [if_pos rfl] at H;exact H
                              clear H
                              have H:=H1
                              clear H1
                              obtain rfl:=Option.some.inj H
                              try go_wp2
                              replace BK234:=Aside0.mk (blk_drew BK234.out)
                              replace BK236:=Aside0.mk (blk_drew BK236.out)
                              replace BK238:=Aside0.mk (blk_drew BK238.out)
                              replace HB:=Aside0.mk (below_drew1 HB.out)
                              have p241 : 0 ≤ (x9_5 : Int):=da
                              have q241 : x9_5 < (l0.length : Int):=da
                              obtain ⟨ad241,e241,hx241_0,hx241_1⟩:=at_T78 HR0.out x9_5 p241 q241
                              have hw241_1:=hx241_1
                              have hw241_0:=hx241_0
                              obtain rfl : ad233 = ad241:=(by injection e241)
                              replace hx241_0:=cq HB.out hx241_0
                              replace hx241_1:=cq HB.out hx241_1
                              replace p241:=eq_true p241
                              replace q241:=eq_true q241
                              have p242 : 0 ≤ ((ji66) : Int):=da
                              have q242 : (ji66) < (l0.length : Int):=da
                              obtain ⟨ad242,e242,hx242_0,hx242_1⟩:=at_T78 HR0.out (ji66) p242 q242
                              have hw242_1:=hx242_1
                              have hw242_0:=hx242_0
                              obtain rfl : ad233 = ad242:=(by injection e242)
                              replace hx242_0:=cq HB.out hx242_0
                              replace hx242_1:=cq HB.out hx242_1
                              replace p242:=eq_true p242
                              replace q242:=eq_true q242
                              refine start_ (n:=22) (S:=fun w' => w'.cell? ⟨gb234,0,none⟩ = some (.int .i64 ((rd_T78 l0 x5_3).f0)) ∧ w'.cell? ⟨gb234,1,none⟩ = some (.int .i64 ((rd_T78 l0 x5_3).f1)) ∧ w'.cell? ⟨gb236,0,none⟩ = some (.int .i64 ((rd_T78 l0 (ji16)).f0)) ∧ w'.cell? ⟨gb236,1,none⟩ = some (.int .i64 ((rd_T78 l0 (ji16)).f1)) ∧ w'.cell? (ad233.add ((x9_5).toNat * 2)) = some (.int .i64 ((rd_T78 l0 x9_5).f0)) ∧ w'.cell? ⟨(ad233.add ((x9_5).toNat * 2)).block,(ad233.add ((x9_5).toNat * 2)).off + 1,none⟩ = some (.int .i64 ((rd_T78 l0 x9_5).f1)) ∧ w'.cell? (ad233.add (((ji66)).toNat * 2)) = some (.int .i64 ((rd_T78 l0 (ji66)).f0)) ∧ w'.cell? ⟨(ad233.add (((ji66)).toNat * 2)).block,(ad233.add (((ji66)).toNat * 2)).off + 1,none⟩ = some (.int .i64 ((rd_T78 l0 (ji66)).f1))) (ds:=[]) #[fF,fF,fF,fF,fF,fF,fF,fF,fF,fF,fF,fF,fF,fF,fF,fF,fF,fF,fF,fF,fF,fF] (by kernel_rfl) rfl rfl ⟨(blk_cell BK234.out 0).trans rfl,(blk_cell BK234.out 1).trans rfl,(blk_cell BK236.out 0).trans rfl,(blk_cell BK236.out 1).trans rfl,cq HB.out hw241_0,cq HB.out hw241_1,cq HB.out hw242_0,cq HB.out hw242_1⟩ (fun hHeld => ?_);refine with_tabW spec_l03Ok.tab20 spec_l03Ok.bits20 (fun HT_ HW_ => ?_)
                              generalize wr.drew = w71 at BK234 BK236 BK238 HB hx241_0 hx241_1 hx242_0 hx242_1 hHeld ⊢
                              refine pu 0 74 HT_ ?_
                              refine pu 1 75 HT_ ?_
                              refine pu 2 76 HT_ ?_
                              refine pu 3 77 HT_ ?_
                              refine pu 4 78 HT_ ?_
                              refine pu 5 79 HT_ ?_
                              refine pu 6 80 HT_ ?_
                              refine pu 9 83 HT_ ?_
                              refine pu 10 84 HT_ ?_
                              refine pu 11 85 HT_ ?_
                              refine pu 13 87 HT_ ?_
                              refine pu 14 88 HT_ ?_
                              refine pu 15 89 HT_ ?_
                              refine pu 16 90 HT_ ?_
                              refine pu 17 91 HT_ ?_
                              refine pu 18 92 HT_ ?_
                              refine tk 7 81 HT_ HW_ hHeld ?_
                              refine tk 8 82 HT_ HW_ hHeld ?_
                              refine tk 12 86 HT_ HW_ hHeld ?_
                              refine tk 19 93 HT_ HW_ hHeld ?_
                              refine on 20 94 HT_ (fun K hK => ?_)
                              refine goes_ Try.func65 (by kernel_rfl) rfl #[.agg #[.int .i64 ((rd_T78 l0 x5_3).f0),.int .i64 ((rd_T78 l0 x5_3).f1)],.agg #[.int .i64 ((rd_T78 l0 (ji16)).f0),.int .i64 ((rd_T78 l0 (ji16)).f1)],.agg #[.int .i64 ((rd_T78 l0 x9_5).f0),.int .i64 ((rd_T78 l0 x9_5).f1)],.agg #[.int .i64 ((rd_T78 l0 (ji66)).f0),.int .i64 ((rd_T78 l0 (ji66)).f1)]] (by rfl) rfl rfl (by (try simp only [mT,mC,mN]);first | done | (simp only [hji16,hji66];rfl) | rfl | (simp only [lD,lT];rfl)) ?_
                              with_reducible refine (spec_l03Meet.calls ((rd_T78 l0 x5_3).f0) ((rd_T78 l0 x5_3).f1) ((rd_T78 l0 (ji16)).f0) ((rd_T78 l0 (ji16)).f1) ((rd_T78 l0 x9_5).f0) ((rd_T78 l0 x9_5).f1) ((rd_T78 l0 (ji66)).f0) ((rd_T78 l0 (ji66)).f1) true _ A69.out).mono ?_
                              rintro e w72 ⟨rfl,hb⟩
                              refine ⟨_,rfl,?_⟩
                              replace BK234:=kb BK234 hb
                              replace BK236:=kb BK236 hb
                              replace BK238:=kb BK238 hb
                              replace HB:=sb hb
                              (try clear hb)
                              (try clear hb2)
                              (try clear hk)
                              (try clear hi)
                              refine hK.out _ _ ⟨(blk_cell BK234.out 0).trans rfl,(blk_cell BK234.out 1).trans rfl,(blk_cell BK236.out 0).trans rfl,(blk_cell BK236.out 1).trans rfl,cq HB.out hw241_0,cq HB.out hw241_1,cq HB.out hw242_0,cq HB.out hw242_1⟩ (fun hHeld => ?_)
                              clear hK K
                              refine norm_ (a':=?_) ?_ ?_
                              rotate_left
                              ·show Act.put _ (some 94) _ = _
                               simp only [Act.put,List.setIfInBounds_toArray,List.set_cons_zero,List.set_cons_succ,i64_w,i32_w]
                               rfl
                              refine pu 21 95 HT_ ?_
                              refine done_ (done_of HT_.out (by kernel_rfl)) ?_
                              try go_wp2
                              go_ret
                              exact ⟨by first | rfl | (simp [errW_none,errW_some] <;> rfl) | (simp only [← hji16,← hji19,← hji66];first | rfl | (simp [errW_none,errW_some] <;> rfl)) | (simp [*,errW_none,errW_some] <;> rfl),ib⟩
                             ·replace c70:=Bool.eq_false_iff.mpr c70
                              subst c70
                              have H1 : (spec_l03Ok.l2 k5 l0 (l0.length : Int) x5_3 (wrap64 (x9_5 + 1)) ((rd_T78 l0 x5_3).f0) ((rd_T78 l0 x5_3).f1) ((rd_T78 l0 (ji16)).f0) ((rd_T78 l0 (ji16)).f1)) = some r:=by rw [if_neg (show ¬ (false = true) by decide)] at H;exact H
                              clear H
                              have H:=H1
                              clear H1
                              have H':=Aside0.mk H
                              clear H
                              try go_wp2
                              replace BK234:=Aside0.mk (blk_drew BK234.out)
                              replace BK236:=Aside0.mk (blk_drew BK236.out)
                              replace BK238:=Aside0.mk (blk_drew BK238.out)
                              replace HB:=Aside0.mk (below_drew1 HB.out)
                              have p241 : 0 ≤ (x9_5 : Int):=da
                              have q241 : x9_5 < (l0.length : Int):=da
                              obtain ⟨ad241,e241,hx241_0,hx241_1⟩:=at_T78 HR0.out x9_5 p241 q241
                              have hw241_1:=hx241_1
                              have hw241_0:=hx241_0
                              obtain rfl : ad233 = ad241:=(by injection e241)
                              replace hx241_0:=cq HB.out hx241_0
                              replace hx241_1:=cq HB.out hx241_1
                              replace p241:=eq_true p241
                              replace q241:=eq_true q241
                              have p242 : 0 ≤ ((ji66) : Int):=da
                              have q242 : (ji66) < (l0.length : Int):=da
                              obtain ⟨ad242,e242,hx242_0,hx242_1⟩:=at_T78 HR0.out (ji66) p242 q242
                              have hw242_1:=hx242_1
                              have hw242_0:=hx242_0
                              obtain rfl : ad233 = ad242:=(by injection e242)
                              replace hx242_0:=cq HB.out hx242_0
                              replace hx242_1:=cq HB.out hx242_1
                              replace p242:=eq_true p242
                              replace q242:=eq_true q242
                              refine start_ (n:=22) (S:=fun w' => w'.cell? ⟨gb234,0,none⟩ = some (.int .i64 ((rd_T78 l0 x5_3).f0)) ∧ w'.cell? ⟨gb234,1,none⟩ = some (.int .i64 ((rd_T78 l0 x5_3).f1)) ∧ w'.cell? ⟨gb236,0,none⟩ = some (.int .i64 ((rd_T78 l0 (ji16)).f0)) ∧ w'.cell? ⟨gb236,1,none⟩ = some (.int .i64 ((rd_T78 l0 (ji16)).f1)) ∧ w'.cell? (ad233.add ((x9_5).toNat * 2)) = some (.int .i64 ((rd_T78 l0 x9_5).f0)) ∧ w'.cell? ⟨(ad233.add ((x9_5).toNat * 2)).block,(ad233.add ((x9_5).toNat * 2)).off + 1,none⟩ = some (.int .i64 ((rd_T78 l0 x9_5).f1)) ∧ w'.cell? (ad233.add (((ji66)).toNat * 2)) = some (.int .i64 ((rd_T78 l0 (ji66)).f0)) ∧ w'.cell? ⟨(ad233.add (((ji66)).toNat * 2)).block,(ad233.add (((ji66)).toNat * 2)).off + 1,none⟩ = some (.int .i64 ((rd_T78 l0 (ji66)).f1))) (ds:=[]) #[fF,fF,fF,fF,fF,fF,fF,fF,fF,fF,fF,fF,fF,fF,fF,fF,fF,fF,fF,fF,fF,fF] (by kernel_rfl) rfl rfl ⟨(blk_cell BK234.out 0).trans rfl,(blk_cell BK234.out 1).trans rfl,(blk_cell BK236.out 0).trans rfl,(blk_cell BK236.out 1).trans rfl,cq HB.out hw241_0,cq HB.out hw241_1,cq HB.out hw242_0,cq HB.out hw242_1⟩ (fun hHeld => ?_);refine with_tabW spec_l03Ok.tab20 spec_l03Ok.bits20 (fun HT_ HW_ => ?_)
                              generalize wr.drew = w73 at BK234 BK236 BK238 HB hx241_0 hx241_1 hx242_0 hx242_1 hHeld ⊢
                              refine pu 0 74 HT_ ?_
                              refine pu 1 75 HT_ ?_
                              refine pu 2 76 HT_ ?_
                              refine pu 3 77 HT_ ?_
                              refine pu 4 78 HT_ ?_
                              refine pu 5 79 HT_ ?_
                              refine pu 6 80 HT_ ?_
                              refine pu 9 83 HT_ ?_
                              refine pu 10 84 HT_ ?_
                              refine pu 11 85 HT_ ?_
                              refine pu 13 87 HT_ ?_
                              refine pu 14 88 HT_ ?_
                              refine pu 15 89 HT_ ?_
                              refine pu 16 90 HT_ ?_
                              refine pu 17 91 HT_ ?_
                              refine pu 18 92 HT_ ?_
                              refine tk 7 81 HT_ HW_ hHeld ?_
                              refine tk 8 82 HT_ HW_ hHeld ?_
                              refine tk 12 86 HT_ HW_ hHeld ?_
                              refine tk 19 93 HT_ HW_ hHeld ?_
                              refine on 20 94 HT_ (fun K hK => ?_)
                              refine goes_ Try.func65 (by kernel_rfl) rfl #[.agg #[.int .i64 ((rd_T78 l0 x5_3).f0),.int .i64 ((rd_T78 l0 x5_3).f1)],.agg #[.int .i64 ((rd_T78 l0 (ji16)).f0),.int .i64 ((rd_T78 l0 (ji16)).f1)],.agg #[.int .i64 ((rd_T78 l0 x9_5).f0),.int .i64 ((rd_T78 l0 x9_5).f1)],.agg #[.int .i64 ((rd_T78 l0 (ji66)).f0),.int .i64 ((rd_T78 l0 (ji66)).f1)]] (by rfl) rfl rfl (by (try simp only [mT,mC,mN]);first | done | (simp only [hji16,hji66];rfl) | rfl | (simp only [lD,lT];rfl)) ?_
                              with_reducible refine (spec_l03Meet.calls ((rd_T78 l0 x5_3).f0) ((rd_T78 l0 x5_3).f1) ((rd_T78 l0 (ji16)).f0) ((rd_T78 l0 (ji16)).f1) ((rd_T78 l0 x9_5).f0) ((rd_T78 l0 x9_5).f1) ((rd_T78 l0 (ji66)).f0) ((rd_T78 l0 (ji66)).f1) false _ A69.out).mono ?_
                              rintro e w74 ⟨rfl,hb⟩
                              refine ⟨_,rfl,?_⟩
                              replace BK234:=kb BK234 hb
                              replace BK236:=kb BK236 hb
                              replace BK238:=kb BK238 hb
                              replace HB:=sb hb
                              (try clear hb)
                              (try clear hb2)
                              (try clear hk)
                              (try clear hi)
                              refine hK.out _ _ ⟨(blk_cell BK234.out 0).trans rfl,(blk_cell BK234.out 1).trans rfl,(blk_cell BK236.out 0).trans rfl,(blk_cell BK236.out 1).trans rfl,cq HB.out hw241_0,cq HB.out hw241_1,cq HB.out hw242_0,cq HB.out hw242_1⟩ (fun hHeld => ?_)
                              clear hK K
                              refine norm_ (a':=?_) ?_ ?_
                              rotate_left
                              ·show Act.put _ (some 94) _ = _
                               simp only [Act.put,List.setIfInBounds_toArray,List.set_cons_zero,List.set_cons_succ,i64_w,i32_w]
                               rfl
                              refine pu 21 95 HT_ ?_
                              refine done_ (done_of HT_.out (by kernel_rfl)) ?_
                              try go_wp2
                              go_roundg k5
                              case measure => have:=HJ1.out;have:=HK2.out;have:=HK3.out;have:=HJ21.out;have:=HK5.out;omega
                              case rel => exact ⟨(wrap64 (x9_5 + 1)),(by first | rfl | (simp;done) | (simp [*];done)),H',⟨by have:=HJ1.out;have:=HK2.out;have:=HK3.out;have:=HJ21.out;have:=HK5.out;omega⟩,⟨by exact bk BK234⟩,⟨by exact bk BK236⟩,⟨by exact bk BK238⟩,⟨ib⟩⟩
                            ·rw [if_neg c68] at H
                             exact absurd H (by simp)
                           ·rw [if_neg c67] at H
                            exact absurd H (by simp)
                          ·first | (exfalso;have z_:=of_decide_eq_true c60b0;omega) | (rw [if_neg c65] at H;exact absurd H (by simp))
                         ·rw [if_neg c64] at H
                          exact absurd H (by simp)
                      ·rw [if_neg c60] at H
                       have c60b0 : decide (x9_5 < (l0.length : Int)) = false:=decide_eq_false c60
                       clear c60
                       have H':=Aside0.mk H
                       clear H
                       go_wp2
                       go_roundg k5
                       case measure => have:=HJ1.out;have:=HK2.out;have:=HK3.out;have:=HJ21.out;have:=HK5.out;omega
                       case rel => exact ⟨(wrap64 (x5_3 + 1)),(by first | rfl | (simp;done) | (simp [*];done)),H',⟨by have:=HJ1.out;have:=HK2.out;have:=HK3.out;have:=HJ21.out;have:=HK5.out;omega⟩,⟨ib⟩⟩
                ·rw [if_neg c21] at H
                 exact absurd H (by simp)
               ·rw [if_neg c20] at H
                exact absurd H (by simp)
              ·rw [if_neg c18] at H
               exact absurd H (by simp)
             ·rw [if_neg c17] at H
              exact absurd H (by simp)
           ·first | (exfalso;have z_:=of_decide_eq_true c12b0;omega) | (rw [if_neg c14] at H;exact absurd H (by simp))
          ·rw [if_neg c13] at H
           exact absurd H (by simp)
         ·rw [if_neg c12] at H
          have c12b0 : decide (x5_3 < (l0.length : Int)) = false:=decide_eq_false c12
          clear c12
          replace H:=bE.mp H
          obtain ⟨t232,A750,H⟩:=H
          replace H : (some (decide (t232 > 0))) = some r:=H
          have A75:=Aside0.mk A750
          clear A750
          obtain rfl:=Option.some.inj H
          go_wp2_with (first | ((with_reducible refine gate_callee (f:=66) rfl ?_);refine goesL_ (some 97) rfl rfl Try.func66 (by kernel_rfl) rfl #[.slice A0 l0.length c0] rfl (by (try simp only [mT,mC,mN]);first | done | rfl | (simp only [lD,lT];rfl)) ?_;(with_reducible refine (spec_l03Area.calls k3 _ _ l0 t232 _ ?side1 ?side2 A75.out).mono ?_);(case side1 => exact cO ((Kd.C_below HR0.out HB.out)));(case side2 => exact HC0.out);rintro e w76 ⟨rfl,hb⟩;refine ⟨_,rfl,?_⟩;replace HB:=sb hb;(try clear hb);(try clear hb2);(try clear hk);(try clear hi)))
          go_ret
          exact ⟨by first | rfl | (simp [errW_none,errW_some] <;> rfl) | (simp [*,errW_none,errW_some] <;> rfl),ib⟩
end Go.Proofs.Ytpeebobdbaemiaa.PFnExactEdgesOf
