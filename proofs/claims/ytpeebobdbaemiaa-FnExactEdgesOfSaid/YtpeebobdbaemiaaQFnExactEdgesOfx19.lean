/- Contracts of functions that FnExactEdgesOf reaches, out of the lines of the kit's print. -/
import Derived.Test.YtpeebobdbaemiaaQFnExactEdgesOfx0
import Derived.Test.YtpeebobdbaemiaaQFnExactEdgesOfx3
import Derived.Test.YtpeebobdbaemiaaQFnExactEdgesOfx5
import Derived.Test.YtpeebobdbaemiaaQFnExactEdgesOfx6
import Derived.Test.YtpeebobdbaemiaaQFnExactEdgesOfx12
import Derived.Test.YtpeebobdbaemiaaQFnExactEdgesOfx18
namespace Go.Proofs.Ytpeebobdbaemiaa.PFnExactEdgesOf
set_option maxHeartbeats 8000000
set_option maxRecDepth 100000
open Go.RowKit Go.Proofs.YtpeebobdbaemiaaW.PrintWords Go.Proofs.YtpeebobdbaemiaaW.PrintLast Go.Proofs.YtpeebobdbaemiaaW.PrintMore
open Bool renaming true → tT, false → fF
open Go.World renaming block_lt_of_cell? → bL
open List renaming length_take → lT, length_drop → lD, map_toArray → mT, map_cons → mC, map_nil → mN
open Option renaming bind_eq_some_iff → bE
attribute [local go_sem] max2_int min2_int max_two min_two max_three min_three max_four min_four
set_option linter.unusedVariables false
set_option linter.unusedSimpArgs false
def laws_heldInt64SS.l0 : Nat → List (List Int) → Int → Int → Option (Int)
 | 0,_,_,_ => none
 | k + 1,x0,x1,x5 => if x5 < (x0.length : Int) then (if 0 ≤ x5 then ((laws_heldInt64S.f k (rd_L3 x0 x5) x1).bind fun t422 => (if t422 < 0 then (some (-1)) else (laws_heldInt64SS.l0 k x0 t422 (wrap64 (x5 + 1))))) else (none)) else (some x1)
def laws_heldInt64SS.f (k : Nat) (l0 : List (List Int)) (a1 : Int) : Option (Int):=laws_heldInt64SS.l0 k l0 a1 0
theorem laws_heldInt64SS.calls (k : Nat) (A0 : Option Addr) (c0 : Nat) (l0 : List (List Int)) (a1 : Int) (r : Int) (w : World) (hr0 : Kd.C (Kd.slice 2 (Kd.int .i64)) w A0 l0.length l0) (hc0 : l0.length ≤ c0) (h : laws_heldInt64SS.f k l0 a1 = some r) :
  Calls Try.prog 18 #[.slice A0 l0.length c0,.int .i64 a1] w fun e w' => e = .returned (.int .i64 r) ∧ Drawn0 w w':=by
 have HR0:=Aside0.mk hr0
 have HC0:=Aside0.mk hc0
 clear hr0 hc0
 have H : (laws_heldInt64SS.l0 k l0 a1 0) = some r:=h
 clear h
 have H':=Aside0.mk H
 clear H
 go_enter Try.func18,Try.ntmps18
 go_wp2
 go_loopg [1,5] k (fun kq v1 v5 w' => ∃ (x1_1 : Int) (x5_1 : Int),v1 = .int .i64 x1_1 ∧ v5 = .int .i64 x5_1 ∧ Aside0 (laws_heldInt64SS.l0 kq l0 x1_1 x5_1 = some r) ∧ Aside0 (kq ≤ k) ∧ Drawn0 w w')
 case atStart => exact ⟨(a1),(0),(by first | rfl | (simp;done) | (simp [*];done)),(by first | rfl | (simp;done) | (simp [*];done)),H',⟨Nat.le_refl _⟩,by repeat (first | exact Drawn0.refl _ | apply Drawn0.step)⟩
 case round =>
  clear H'
  try clear c1
  try clear p2
  obtain ⟨x1_1,x5_1,rfl,rfl,HA,HK1,⟨m1,rfl⟩⟩:=hrel
  cases gk with
  | zero => exact absurd HA.out (by simp [laws_heldInt64SS.l0])
  | succ k1 =>
   have H:=HA.out
   clear HA
   simp only [laws_heldInt64SS.l0] at H
   by_cases c3 : x5_1 < (l0.length : Int)
   ·rw [if_pos c3] at H
    have c3b0 : decide (x5_1 < (l0.length : Int)) = true:=decide_eq_true c3
    clear c3
    by_cases c4 : 0 ≤ x5_1
    ·rw [if_pos c4] at H
     have c4b0 : decide (0 ≤ x5_1) = true:=decide_eq_true c4
     clear c4
     replace H:=bE.mp H
     obtain ⟨t422,A50,H⟩:=H
     replace H : (if t422 < 0 then (some (-1)) else (laws_heldInt64SS.l0 k1 l0 t422 (wrap64 (x5_1 + 1)))) = some r:=H
     have A5:=Aside0.mk A50
     clear A50
     by_cases c6 : t422 < 0
     ·rw [if_pos c6] at H
      have c6b0 : decide (t422 < 0) = true:=decide_eq_true c6
      clear c6
      obtain rfl:=Option.some.inj H
      have p421 : 0 ≤ (x5_1 : Int):=da
      have q421 : x5_1 < (l0.length : Int):=da
      obtain ⟨ad421,A421_0,c421_0,e421,hx421_0,hl421_0,hi421_0⟩:=at_L3 HR0.out x5_1 p421 q421
      cases e421
      have HR421_0:=Aside0.mk hi421_0
      have HC421_0:=Aside0.mk hl421_0
      clear hi421_0 hl421_0
      replace p421:=eq_true p421
      replace q421:=eq_true q421
      go_wp2_with (first | ((with_reducible refine gate_callee (f:=13) rfl ?_);refine goesL_ (some 17) rfl rfl Try.func13 (by kernel_rfl) rfl #[.slice A421_0 (rd_L3 l0 x5_1).length c421_0,.int .i64 x1_1] rfl (by (try simp only [mT,mC,mN]);first | done | rfl | (simp only [lD,lT];rfl)) ?_;(with_reducible refine (laws_heldInt64S.calls k1 _ _ (rd_L3 l0 x5_1) x1_1 t422 _ ?side1 ?side2 A5.out).mono ?_);(case side1 => exact cO HR421_0.out);(case side2 => exact HC421_0.out);rintro e w' ⟨rfl,⟨nd,rfl⟩⟩;refine ⟨_,rfl,?_⟩))
      go_ret
      exact ⟨by first | rfl | (simp;done) | (simp [*];done),by repeat (first | exact Drawn0.refl _ | apply Drawn0.step)⟩
     ·rw [if_neg c6] at H
      have c6b0 : decide (t422 < 0) = false:=decide_eq_false c6
      clear c6
      have H':=Aside0.mk H
      clear H
      have p421 : 0 ≤ (x5_1 : Int):=da
      have q421 : x5_1 < (l0.length : Int):=da
      obtain ⟨ad421,A421_0,c421_0,e421,hx421_0,hl421_0,hi421_0⟩:=at_L3 HR0.out x5_1 p421 q421
      cases e421
      have HR421_0:=Aside0.mk hi421_0
      have HC421_0:=Aside0.mk hl421_0
      clear hi421_0 hl421_0
      replace p421:=eq_true p421
      replace q421:=eq_true q421
      go_wp2_with (first | ((with_reducible refine gate_callee (f:=13) rfl ?_);refine goesL_ (some 17) rfl rfl Try.func13 (by kernel_rfl) rfl #[.slice A421_0 (rd_L3 l0 x5_1).length c421_0,.int .i64 x1_1] rfl (by (try simp only [mT,mC,mN]);first | done | rfl | (simp only [lD,lT];rfl)) ?_;(with_reducible refine (laws_heldInt64S.calls k1 _ _ (rd_L3 l0 x5_1) x1_1 t422 _ ?side1 ?side2 A5.out).mono ?_);(case side1 => exact cO HR421_0.out);(case side2 => exact HC421_0.out);rintro e w' ⟨rfl,⟨nd,rfl⟩⟩;refine ⟨_,rfl,?_⟩))
      go_roundg k1
      case measure => have:=HK1.out;omega
      case rel => exact ⟨(t422),(wrap64 (x5_1 + 1)),(by first | rfl | (simp;done) | (simp [*];done)),(by first | rfl | (simp;done) | (simp [*];done)),H',⟨by have:=HK1.out;omega⟩,by repeat (first | exact Drawn0.refl _ | apply Drawn0.step)⟩
    ·rw [if_neg c4] at H
     exact absurd H (by simp)
   ·rw [if_neg c3] at H
    have c3b0 : decide (x5_1 < (l0.length : Int)) = false:=decide_eq_false c3
    clear c3
    obtain rfl:=Option.some.inj H
    go_wp2
    go_ret
    exact ⟨by first | rfl | (simp;done) | (simp [*];done),by repeat (first | exact Drawn0.refl _ | apply Drawn0.step)⟩
mutual
def laws_FnExactEdgesOf.j0 : Nat → List (List Int) → Int → List (List Int) → Int → Bool → Int → Int → List (S80) → List (S70) → Int → Int → List (S78) → List (S64) → Option (Bool)
 | 0,_,_,_,_,_,_,_,_,_,_,_,_,_ => none
 | k + 1,x4,x5,x7,x8,x40,x424000,x424001,x424002,x424003,x446000,x446001,x446002,x446003 => if x40 = true then (some false) else ((laws_toDrawing.f k x424000 x424001 x424002 x424003).bind fun bt451 => ((laws_eqDrawing.f k x446000 x446001 x446002 x446003 bt451.1 bt451.2.1 bt451.2.2.1 bt451.2.2.2).bind fun t459 => (if t459 = true then ((laws_markDrawing.f k x446000 x446001 x446002 x446003 1).bind fun t460 => (if t460 < 0 then (laws_FnExactEdgesOf.j1 k x4 x5 x7 true x424000 x424001 x424002 x424003) else ((laws_eqInt64SS.f k x7 x4).bind fun t461 => (if t461 = true then (laws_FnExactEdgesOf.j1 k x4 x5 x7 (x8 != x5) x424000 x424001 x424002 x424003) else (laws_FnExactEdgesOf.j1 k x4 x5 x7 true x424000 x424001 x424002 x424003))))) else (some false))))
def laws_FnExactEdgesOf.j1 : Nat → List (List Int) → Int → List (List Int) → Bool → Int → Int → List (S80) → List (S70) → Option (Bool)
 | 0,_,_,_,_,_,_,_,_ => none
 | k + 1,x4,x5,x7,x61,x424000,x424001,x424002,x424003 => if x61 = true then (some false) else ((laws_markInt64SS.f k x7 1).bind fun bt462 => ((laws_heldInt64SS.f k bt462.2 1).bind fun t464 => (if t464 < 0 then (some false) else (if t464 = bt462.1 then ((laws_toDrawing.f k x424000 x424001 x424002 x424003).bind fun bt465 => ((impl_EdgesOf.f k bt465.1 bt465.2.1 bt465.2.2.1 bt465.2.2.2).bind fun bt473 => ((laws_eqInt64SS.f k bt473.1 x4).bind fun t477 => (if t477 = true then (laws_FnExactEdgesOf.j2 k bt462.2 bt462.1 (bt473.2 != x5)) else (laws_FnExactEdgesOf.j2 k bt462.2 bt462.1 true))))) else (some false)))))
def laws_FnExactEdgesOf.j2 : Nat → List (List Int) → Int → Bool → Option (Bool)
 | 0,_,_,_ => none
 | k + 1,x7,x10,x87 => if x87 = true then (some false) else ((laws_heldInt64SS.f k x7 1).bind fun t478 => (if t478 < 0 then (some false) else (if t478 = x10 then (some true) else (some false))))
end
def laws_FnExactEdgesOf.f (k : Nat) (a0_0 : Int) (a0_1 : Int) (l0_2 : List (S80)) (l0_3 : List (S70)) : Option (Bool):=(laws_szDrawing.f k a0_0 a0_1 l0_2 l0_3 1048576).bind fun t424 => (if t424 < 0 then (some true) else ((laws_toDrawing.f k a0_0 a0_1 l0_2 l0_3).bind fun bt425 => ((spec_EdgesOf.f k bt425.1 bt425.2.1 bt425.2.2.1 bt425.2.2.2).bind fun bt433 => ((laws_toDrawing.f k a0_0 a0_1 l0_2 l0_3).bind fun bt437 => ((impl_EdgesOf.f k bt437.1 bt437.2.1 bt437.2.2.1 bt437.2.2.2).bind fun bt446 => ((laws_eqInt64SS.f k bt446.1 bt433.1).bind fun t450 => (if t450 = true then (laws_FnExactEdgesOf.j0 k bt433.1 bt433.2 bt446.1 bt446.2 (bt446.2 != bt433.2) a0_0 a0_1 l0_2 l0_3 bt437.1 bt437.2.1 bt437.2.2.1 bt437.2.2.2) else (laws_FnExactEdgesOf.j0 k bt433.1 bt433.2 bt446.1 bt446.2 true a0_0 a0_1 l0_2 l0_3 bt437.1 bt437.2.1 bt437.2.2.1 bt437.2.2.2))))))))
theorem laws_FnExactEdgesOf.calls (k : Nat) (a0_0 : Int) (a0_1 : Int) (A0_2 : Option Addr) (c0_2 : Nat) (l0_2 : List (S80)) (A0_3 : Option Addr) (c0_3 : Nat) (l0_3 : List (S70)) (w : World) (hr0_2 : Kd.C k80 w A0_2 l0_2.length l0_2) (hc0_2 : l0_2.length ≤ c0_2) (hr0_3 : Kd.C k70 w A0_3 l0_3.length l0_3) (hc0_3 : l0_3.length ≤ c0_3) (h : laws_FnExactEdgesOf.f k a0_0 a0_1 l0_2 l0_3 = some true) :
  Calls Try.prog 4 #[.agg #[.int .i64 a0_0,.int .i64 a0_1,.slice A0_2 l0_2.length c0_2,.slice A0_3 l0_3.length c0_3]] w fun e w' => e = .returned (.bool true) ∧ Below w.heap.size w w':=by
 have hu25:=Try.underlying25
 have hu33:=Try.underlying33
 have HR0_2:=Aside0.mk hr0_2
 have HC0_2:=Aside0.mk hc0_2
 clear hr0_2 hc0_2
 have HR0_3:=Aside0.mk hr0_3
 have HC0_3:=Aside0.mk hc0_3
 clear hr0_3 hc0_3
 have HB:=Aside0.mk (Below.refl w.heap.size w)
 have H : ((laws_szDrawing.f k a0_0 a0_1 l0_2 l0_3 1048576).bind fun t424 => (if t424 < 0 then (some true) else ((laws_toDrawing.f k a0_0 a0_1 l0_2 l0_3).bind fun bt425 => ((spec_EdgesOf.f k bt425.1 bt425.2.1 bt425.2.2.1 bt425.2.2.2).bind fun bt433 => ((laws_toDrawing.f k a0_0 a0_1 l0_2 l0_3).bind fun bt437 => ((impl_EdgesOf.f k bt437.1 bt437.2.1 bt437.2.2.1 bt437.2.2.2).bind fun bt446 => ((laws_eqInt64SS.f k bt446.1 bt433.1).bind fun t450 => (if t450 = true then (laws_FnExactEdgesOf.j0 k bt433.1 bt433.2 bt446.1 bt446.2 (bt446.2 != bt433.2) a0_0 a0_1 l0_2 l0_3 bt437.1 bt437.2.1 bt437.2.2.1 bt437.2.2.2) else (laws_FnExactEdgesOf.j0 k bt433.1 bt433.2 bt446.1 bt446.2 true a0_0 a0_1 l0_2 l0_3 bt437.1 bt437.2.1 bt437.2.2.1 bt437.2.2.2))))))))) = some true:=h
 clear h
 obtain ⟨t1,A10_,H⟩:=bE.mp H
 have A1:=Aside0.mk A10_
 clear A10_
 by_cases c1 : t1 < 0
 ·have c1b0 : decide (t1 < 0) = true:=decide_eq_true c1
  clear c1 H
  go_enter Try.func4,Try.ntmps4
  go_wp2_with (first | ((with_reducible refine gate_dst (N:=1) rfl ?_);refine bx (cs:=#[.int .i64 a0_0,.int .i64 a0_1,.slice A0_2 l0_2.length c0_2,.slice A0_3 l0_3.length c0_3]) (t:=25) ?_;intro gB hg w5 hbox hb;have BB:=Aside0.mk hbox;have HBn_:=sb hb;clear HB;have HB:=HBn_;clear HBn_;(try clear hb0 hb1 hb2 hb3);have hb0 : w5.cell? ⟨gB,0,none⟩ = some (.int .i64 a0_0):=(blk_cell BB.out 0).trans rfl;have hb1 : w5.cell? ⟨gB,1,none⟩ = some (.int .i64 a0_1):=(blk_cell BB.out 1).trans rfl;have hb2 : w5.cell? ⟨gB,2,none⟩ = some (.slice A0_2 l0_2.length c0_2):=(blk_cell BB.out 2).trans rfl;have hb3 : w5.cell? ⟨gB,3,none⟩ = some (.slice A0_3 l0_3.length c0_3):=(blk_cell BB.out 3).trans rfl;clear hbox hb hg) | ((with_reducible refine gate_callee (f:=5) rfl ?_);refine goesL_ _ rfl rfl Try.func5 (by kernel_rfl) rfl #[.agg #[.int .i64 a0_0,.int .i64 a0_1,.slice A0_2 l0_2.length c0_2,.slice A0_3 l0_3.length c0_3],.int .i64 1048576] rfl (by (try simp only [mT,mC,mN]);first | done | rfl | (simp only [lD,lT];rfl)) ?_;(with_reducible refine (laws_szDrawing.calls _ a0_0 a0_1 _ _ l0_2 _ _ l0_3 1048576 t1 _ (cO ((Kd.C_below HR0_2.out ib))) HC0_2.out (cO ((Kd.C_below HR0_3.out ib))) HC0_3.out A1.out).mono ?_);rintro e w5 ⟨rfl,hb⟩;refine ⟨_,rfl,?_⟩;have BBn_:=Aside0.mk (blk_below (by repeat (first | exact BB.out | refine blk_drewN ?_ _ | refine blk_drew ?_)) hb);have HBn_:=sb hb;clear HB;have HB:=HBn_;clear HBn_;clear BB;have BB:=BBn_;clear BBn_;clear A1;(try clear hb0 hb1 hb2 hb3);have hb0 : w5.cell? ⟨gB,0,none⟩ = some (.int .i64 a0_0):=(blk_cell BB.out 0).trans rfl;have hb1 : w5.cell? ⟨gB,1,none⟩ = some (.int .i64 a0_1):=(blk_cell BB.out 1).trans rfl;have hb2 : w5.cell? ⟨gB,2,none⟩ = some (.slice A0_2 l0_2.length c0_2):=(blk_cell BB.out 2).trans rfl;have hb3 : w5.cell? ⟨gB,3,none⟩ = some (.slice A0_3 l0_3.length c0_3):=(blk_cell BB.out 3).trans rfl;clear hb))
  go_ret
  exact ⟨(by first | rfl | (simp;done) | (simp [*];done)),ib⟩
 ·replace H:=(if_neg c1).symm.trans H
  have c1b0 : decide (t1 < 0) = false:=decide_eq_false c1
  clear c1
  obtain ⟨⟨d0,d1,d2,d3⟩,A2_,H⟩:=bE.mp H
  obtain ⟨⟨s0,s1⟩,A3_,H⟩:=bE.mp H
  obtain ⟨⟨x0,x1,x2,x3⟩,A5_,H⟩:=bE.mp H
  obtain ⟨⟨g0,g1⟩,A6_,H⟩:=bE.mp H
  obtain ⟨t8,A8_,H⟩:=bE.mp H
  dsimp only at H A2_ A3_ A5_ A6_ A8_
  cases t8 with
  | false =>
   replace H:=(if_neg (show ¬ (false = true) by decide)).symm.trans H
   cases k <;> simp [laws_FnExactEdgesOf.j0] at H
  | true =>
  replace H:=(if_pos rfl).symm.trans H
  cases e1 : (g1 != s1) with
  | true =>
   rw [e1] at H
   cases k <;> simp [laws_FnExactEdgesOf.j0] at H
  | false =>
  rw [e1] at H
  cases k with
  | zero => simp [laws_FnExactEdgesOf.j0] at H
  | succ k1 =>
  simp only [laws_FnExactEdgesOf.j0,Bool.false_eq_true,if_false] at H
  obtain ⟨⟨q0,q1,q2,q3⟩,A9_,H⟩:=bE.mp H
  obtain ⟨t10,A10_,H⟩:=bE.mp H
  dsimp only at H A9_ A10_
  cases t10 with
  | false => exact absurd H (by simp)
  | true =>
  replace H:=(if_pos rfl).symm.trans H
  obtain ⟨t11,A11_,H⟩:=bE.mp H
  by_cases c2 : t11 < 0
  ·replace H:=(if_pos c2).symm.trans H
   cases k1 <;> simp [laws_FnExactEdgesOf.j1] at H
  replace H:=(if_neg c2).symm.trans H
  have c2b0 : decide (t11 < 0) = false:=decide_eq_false c2
  clear c2
  obtain ⟨t13,A13_,H⟩:=bE.mp H
  cases t13 with
  | false =>
   replace H:=(if_neg (show ¬ (false = true) by decide)).symm.trans H
   cases k1 <;> simp [laws_FnExactEdgesOf.j1] at H
  | true =>
  replace H:=(if_pos rfl).symm.trans H
  rw [e1] at H
  cases k1 with
  | zero => simp [laws_FnExactEdgesOf.j1] at H
  | succ k2 =>
  simp only [laws_FnExactEdgesOf.j1,Bool.false_eq_true,if_false] at H
  obtain ⟨⟨t14,y2⟩,A14_,H⟩:=bE.mp H
  obtain ⟨t16,A16_,H⟩:=bE.mp H
  dsimp only at H A14_ A16_
  by_cases c3 : t16 < 0
  ·exact absurd ((if_pos c3).symm.trans H) (by simp)
  replace H:=(if_neg c3).symm.trans H
  by_cases c4 : t16 = t14
  case neg => exact absurd ((if_neg c4).symm.trans H) (by simp)
  replace H:=(if_pos c4).symm.trans H
  subst c4
  have c3b0 : decide (t16 < 0) = false:=decide_eq_false c3
  clear c3
  obtain ⟨⟨z0,z1,z2,z3⟩,A17_,H⟩:=bE.mp H
  obtain ⟨⟨u0,u1⟩,A18_,H⟩:=bE.mp H
  obtain ⟨t20,A20_,H⟩:=bE.mp H
  dsimp only at H A17_ A18_ A20_
  cases t20 with
  | false =>
   replace H:=(if_neg (show ¬ (false = true) by decide)).symm.trans H
   cases k2 <;> simp [laws_FnExactEdgesOf.j2] at H
  | true =>
  replace H:=(if_pos rfl).symm.trans H
  cases e2 : (u1 != s1) with
  | true =>
   rw [e2] at H
   cases k2 <;> simp [laws_FnExactEdgesOf.j2] at H
  | false =>
  rw [e2] at H
  cases k2 with
  | zero => simp [laws_FnExactEdgesOf.j2] at H
  | succ k3 =>
  simp only [laws_FnExactEdgesOf.j2,Bool.false_eq_true,if_false] at H
  obtain ⟨t21,A21_,H⟩:=bE.mp H
  by_cases c5 : t21 < 0
  ·exact absurd ((if_pos c5).symm.trans H) (by simp)
  replace H:=(if_neg c5).symm.trans H
  by_cases c6 : t21 = t16
  case neg => exact absurd ((if_neg c6).symm.trans H) (by simp)
  subst c6
  clear H c5
  have A2:=Aside0.mk A2_;have A3:=Aside0.mk A3_;have A5:=Aside0.mk A5_;have A6:=Aside0.mk A6_;have A8:=Aside0.mk A8_;have A9:=Aside0.mk A9_;have A10:=Aside0.mk A10_;have A11:=Aside0.mk A11_;have A13:=Aside0.mk A13_;have A14:=Aside0.mk A14_;have A16:=Aside0.mk A16_;have A17:=Aside0.mk A17_;have A18:=Aside0.mk A18_;have A20:=Aside0.mk A20_;have A21:=Aside0.mk A21_
  clear A2_ A3_ A5_ A6_ A8_ A9_ A10_ A11_ A13_ A14_ A16_ A17_ A18_ A20_ A21_
  go_enter Try.func4,Try.ntmps4
  go_wp2_with (first | ((with_reducible refine gate_dst (N:=1) rfl ?_);refine bx (cs:=#[.int .i64 a0_0,.int .i64 a0_1,.slice A0_2 l0_2.length c0_2,.slice A0_3 l0_3.length c0_3]) (t:=25) ?_;intro gB hg w5 hbox hb;have BB:=Aside0.mk hbox;have HBn_:=sb hb;clear HB;have HB:=HBn_;clear HBn_;(try clear hb0 hb1 hb2 hb3);have hb0 : w5.cell? ⟨gB,0,none⟩ = some (.int .i64 a0_0):=(blk_cell BB.out 0).trans rfl;have hb1 : w5.cell? ⟨gB,1,none⟩ = some (.int .i64 a0_1):=(blk_cell BB.out 1).trans rfl;have hb2 : w5.cell? ⟨gB,2,none⟩ = some (.slice A0_2 l0_2.length c0_2):=(blk_cell BB.out 2).trans rfl;have hb3 : w5.cell? ⟨gB,3,none⟩ = some (.slice A0_3 l0_3.length c0_3):=(blk_cell BB.out 3).trans rfl;clear hbox hb hg) | ((with_reducible refine gate_callee (f:=5) rfl ?_);refine goesL_ _ rfl rfl Try.func5 (by kernel_rfl) rfl #[.agg #[.int .i64 a0_0,.int .i64 a0_1,.slice A0_2 l0_2.length c0_2,.slice A0_3 l0_3.length c0_3],.int .i64 1048576] rfl (by (try simp only [mT,mC,mN]);first | done | rfl | (simp only [lD,lT];rfl)) ?_;(with_reducible refine (laws_szDrawing.calls _ a0_0 a0_1 _ _ l0_2 _ _ l0_3 1048576 t1 _ (cO ((Kd.C_below HR0_2.out ib))) HC0_2.out (cO ((Kd.C_below HR0_3.out ib))) HC0_3.out A1.out).mono ?_);rintro e w5 ⟨rfl,hb⟩;refine ⟨_,rfl,?_⟩;have BBn_:=Aside0.mk (blk_below (by repeat (first | exact BB.out | refine blk_drewN ?_ _ | refine blk_drew ?_)) hb);have HBn_:=sb hb;clear HB;have HB:=HBn_;clear HBn_;clear BB;have BB:=BBn_;clear BBn_;clear A1;(try clear hb0 hb1 hb2 hb3);have hb0 : w5.cell? ⟨gB,0,none⟩ = some (.int .i64 a0_0):=(blk_cell BB.out 0).trans rfl;have hb1 : w5.cell? ⟨gB,1,none⟩ = some (.int .i64 a0_1):=(blk_cell BB.out 1).trans rfl;have hb2 : w5.cell? ⟨gB,2,none⟩ = some (.slice A0_2 l0_2.length c0_2):=(blk_cell BB.out 2).trans rfl;have hb3 : w5.cell? ⟨gB,3,none⟩ = some (.slice A0_3 l0_3.length c0_3):=(blk_cell BB.out 3).trans rfl;clear hb) | ((with_reducible refine gate_callee (f:=7) rfl ?_);refine goesL_ _ rfl rfl Try.func7 (by kernel_rfl) rfl #[.agg #[.int .i64 a0_0,.int .i64 a0_1,.slice A0_2 l0_2.length c0_2,.slice A0_3 l0_3.length c0_3]] rfl (by (try simp only [mT,mC,mN]);first | done | rfl | (simp only [lD,lT];rfl)) ?_;(with_reducible refine (laws_toDrawing.calls _ a0_0 a0_1 _ _ l0_2 _ _ l0_3 d0 d1 d2 d3 _ (cO ((Kd.C_below HR0_2.out ib))) HC0_2.out (cO ((Kd.C_below HR0_3.out ib))) HC0_3.out A2.out).mono ?_);rintro e w5 ⟨vp_,vf_,rfl,ho,hs,hb⟩;refine ⟨_,rfl,?_⟩;have BBn_:=Aside0.mk (blk_below (by repeat (first | exact BB.out | refine blk_drewN ?_ _ | refine blk_drew ?_)) hb);have XT:=Aside0.mk ho;have XF:=Aside0.mk hs;have HBn_:=sb hb;clear HB;have HB:=HBn_;clear HBn_;clear BB;have BB:=BBn_;clear BBn_;clear A2;obtain ⟨AT,cT,eT_⟩:=Kd.R_slice XT.out;subst eT_;obtain ⟨AF,cF,eF_⟩:=Kd.S_slice XF.out;subst eF_;(try clear hb0 hb1 hb2 hb3);have hb0 : w5.cell? ⟨gB,0,none⟩ = some (.int .i64 a0_0):=(blk_cell BB.out 0).trans rfl;have hb1 : w5.cell? ⟨gB,1,none⟩ = some (.int .i64 a0_1):=(blk_cell BB.out 1).trans rfl;have hb2 : w5.cell? ⟨gB,2,none⟩ = some (.slice A0_2 l0_2.length c0_2):=(blk_cell BB.out 2).trans rfl;have hb3 : w5.cell? ⟨gB,3,none⟩ = some (.slice A0_3 l0_3.length c0_3):=(blk_cell BB.out 3).trans rfl;clear hb) | ((with_reducible refine gate_callee (f:=14) rfl ?_);refine goesL_ _ rfl rfl Try.func14 (by kernel_rfl) rfl #[.agg #[.int .i64 d0,.int .i64 d1,.slice AT d2.length cT,.slice AF d3.length cF]] rfl (by (try simp only [mT,mC,mN]);first | done | rfl | (simp only [lD,lT];rfl)) ?_;(with_reducible refine (spec_EdgesOf.calls _ d0 d1 _ _ d2 _ _ d3 s0 s1 _ (cO ((Kd.R_reads' XT.out).2.2)) (Kd.R_reads' XT.out).2.1 (cO ((Kd.S_reads' XF.out).2.2)) (Kd.S_reads' XF.out).2.1 A3.out).mono ?_);rintro e w5 ⟨v0_,rfl,ho,hb⟩;refine ⟨_,rfl,?_⟩;have BBn_:=Aside0.mk (blk_below (by repeat (first | exact BB.out | refine blk_drewN ?_ _ | refine blk_drew ?_)) hb);obtain ⟨N1,hN1⟩ : ∃ n_,n_ = w5.heap.size:=⟨_,rfl⟩;have G0:=Aside0.mk (Kd.S_mono (ok':=fun k_ => k_ < N1) (Kd.S_lower (Kd.S_bound ho) (show Below w.heap.size w _ from ib).size) (fun k_ hk_ => by rw [hN1];exact hk_.2.2.1));have B1:=Aside0.mk (Nat.le_of_eq hN1);have HBn_:=sb hb;clear HB;have HB:=HBn_;clear HBn_;clear BB;have BB:=BBn_;clear BBn_;have GBN:=Aside0.mk (show gB < N1 by rw [hN1];exact blk_lt BB.out);clear A3 XT XF hN1;obtain ⟨AG,cG,eG_⟩:=Kd.S_slice G0.out;subst eG_;(try clear hb0 hb1 hb2 hb3);have hb0 : w5.cell? ⟨gB,0,none⟩ = some (.int .i64 a0_0):=(blk_cell BB.out 0).trans rfl;have hb1 : w5.cell? ⟨gB,1,none⟩ = some (.int .i64 a0_1):=(blk_cell BB.out 1).trans rfl;have hb2 : w5.cell? ⟨gB,2,none⟩ = some (.slice A0_2 l0_2.length c0_2):=(blk_cell BB.out 2).trans rfl;have hb3 : w5.cell? ⟨gB,3,none⟩ = some (.slice A0_3 l0_3.length c0_3):=(blk_cell BB.out 3).trans rfl;clear hb) | ((with_reducible refine gate_callee (f:=7) rfl ?_);refine goesL_ _ rfl rfl Try.func7 (by kernel_rfl) rfl #[.agg #[.int .i64 a0_0,.int .i64 a0_1,.slice A0_2 l0_2.length c0_2,.slice A0_3 l0_3.length c0_3]] rfl (by (try simp only [mT,mC,mN]);first | done | rfl | (simp only [lD,lT];rfl)) ?_;(with_reducible refine (laws_toDrawing.calls _ a0_0 a0_1 _ _ l0_2 _ _ l0_3 x0 x1 x2 x3 _ (cO ((Kd.C_below HR0_2.out ib))) HC0_2.out (cO ((Kd.C_below HR0_3.out ib))) HC0_3.out A5.out).mono ?_);rintro e w5 ⟨vp_,vf_,rfl,ho,hs,hb⟩;refine ⟨_,rfl,?_⟩;have BBn_:=Aside0.mk (blk_below (by repeat (first | exact BB.out | refine blk_drewN ?_ _ | refine blk_drew ?_)) hb);have G0n_:=Aside0.mk (Kd.S_below (sO G0.out) hb);obtain ⟨N2,hN2⟩ : ∃ n_,n_ = w5.heap.size:=⟨_,rfl⟩;have XP:=Aside0.mk (Kd.R_mono (ok':=fun k_ => N1 ≤ k_ ∧ k_ < N2) (Kd.R_lower (Kd.R_bound ho) (show Below w.heap.size w _ from ib).size) (fun k_ hk_ => ⟨Nat.le_trans B1.out hk_.2.1,by rw [hN2];exact hk_.2.2.1⟩));have XQ:=Aside0.mk (Kd.S_mono (ok':=fun k_ => N1 ≤ k_ ∧ k_ < N2) (Kd.S_lower (Kd.S_bound hs) (show Below w.heap.size w _ from ib).size) (fun k_ hk_ => ⟨Nat.le_trans B1.out hk_.2.1,by rw [hN2];exact hk_.2.2.1⟩));have B2:=Aside0.mk (Nat.le_of_eq hN2);have B12:=Aside0.mk (show N1 ≤ N2 by rw [hN2];exact Nat.le_trans B1.out hb.size);have HBn_:=sb hb;clear HB;have HB:=HBn_;clear HBn_;clear BB;have BB:=BBn_;clear BBn_;clear G0;have G0:=G0n_;clear G0n_;clear A5 hN2;obtain ⟨AP,cP,eP_⟩:=Kd.R_slice XP.out;subst eP_;obtain ⟨AQ,cQ,eQ_⟩:=Kd.S_slice XQ.out;subst eQ_;(try clear hb0 hb1 hb2 hb3);have hb0 : w5.cell? ⟨gB,0,none⟩ = some (.int .i64 a0_0):=(blk_cell BB.out 0).trans rfl;have hb1 : w5.cell? ⟨gB,1,none⟩ = some (.int .i64 a0_1):=(blk_cell BB.out 1).trans rfl;have hb2 : w5.cell? ⟨gB,2,none⟩ = some (.slice A0_2 l0_2.length c0_2):=(blk_cell BB.out 2).trans rfl;have hb3 : w5.cell? ⟨gB,3,none⟩ = some (.slice A0_3 l0_3.length c0_3):=(blk_cell BB.out 3).trans rfl;clear hb) | ((with_reducible refine gate_dst (N:=6) rfl ?_);refine bx (cs:=#[.int .i64 0,.int .i64 0,.slice none 0 0,.slice none 0 0]) (t:=33) ?_;intro gX hg w5 hbox hb;have BX:=Aside0.mk hbox;have NX:=Aside0.mk (show N2 ≤ gX by rw [hg];exact B2.out);have GEX:=Aside0.mk (show w.heap.size ≤ gX by rw [hg];exact HB.out.size);have BBn_:=Aside0.mk (blk_below (by repeat (first | exact BB.out | refine blk_drewN ?_ _ | refine blk_drew ?_)) hb);have G0n_:=Aside0.mk (Kd.S_below (sO G0.out) hb);have XPn_:=Aside0.mk (Kd.R_below (rO XP.out) hb);have XQn_:=Aside0.mk (Kd.S_below (sO XQ.out) hb);have HBn_:=sb hb;clear HB;have HB:=HBn_;clear HBn_;clear BB;have BB:=BBn_;clear BBn_;clear G0;have G0:=G0n_;clear G0n_;clear XP;have XP:=XPn_;clear XPn_;clear XQ;have XQ:=XQn_;clear XQn_;(try clear hb0 hb1 hb2 hb3);have hb0 : w5.cell? ⟨gB,0,none⟩ = some (.int .i64 a0_0):=(blk_cell BB.out 0).trans rfl;have hb1 : w5.cell? ⟨gB,1,none⟩ = some (.int .i64 a0_1):=(blk_cell BB.out 1).trans rfl;have hb2 : w5.cell? ⟨gB,2,none⟩ = some (.slice A0_2 l0_2.length c0_2):=(blk_cell BB.out 2).trans rfl;have hb3 : w5.cell? ⟨gB,3,none⟩ = some (.slice A0_3 l0_3.length c0_3):=(blk_cell BB.out 3).trans rfl;clear hb;clear hbox hg;have hz0:=(blk_cell BX.out 0).trans rfl;have hz1:=(blk_cell BX.out 1).trans rfl;have hz2:=(blk_cell BX.out 2).trans rfl;have hz3:=(blk_cell BX.out 3).trans rfl;have hf0:=blk_frozen BX.out 0;have hf1:=blk_frozen BX.out 1;have hf2:=blk_frozen BX.out 2;have hf3:=blk_frozen BX.out 3) | ((with_reducible refine gate_callee (f:=15) rfl ?_);obtain ⟨w9,hw⟩ : ∃ w_,w_ = ((((w5.setCell ⟨gX,0,none⟩ (.int .i64 x0)).setCell ⟨gX,1,none⟩ (.int .i64 x1)).setCell ⟨gX,2,none⟩ (.slice AP x2.length cP)).setCell ⟨gX,3,none⟩ (.slice AQ x3.length cQ)):=⟨_,rfl⟩;rw [← hw];have fa_ : ∀ k_,k_ ≠ gX → w9.heap[k_]? = w5.heap[k_]?:=fun k_ hk_ => (by rw [hw];exact (Below.heap_setCell _ _ _ k_ hk_).trans ((Below.heap_setCell _ _ _ k_ hk_).trans ((Below.heap_setCell _ _ _ k_ hk_).trans (Below.heap_setCell _ _ _ k_ hk_))));have G0n_:=Aside0.mk (Kd.S_step G0.out (fun k_ h_ _ => fa_ k_ (Nat.ne_of_lt (Nat.lt_of_lt_of_le h_ (Nat.le_trans B12.out NX.out)))));have XPn_:=Aside0.mk (Kd.R_step XP.out (fun k_ h_ _ => fa_ k_ (Nat.ne_of_lt (Nat.lt_of_lt_of_le h_.2 NX.out))));have XQn_:=Aside0.mk (Kd.S_step XQ.out (fun k_ h_ _ => fa_ k_ (Nat.ne_of_lt (Nat.lt_of_lt_of_le h_.2 NX.out))));have BBn_:=Aside0.mk ((fa_ gB (Nat.ne_of_lt (Nat.lt_of_lt_of_le GBN.out (Nat.le_trans B12.out NX.out)))).trans BB.out);have BXn_:=Aside0.mk (show w9.heap[gX]? = some (.cells #[.int .i64 x0,.int .i64 x1,.slice AP x2.length cP,.slice AQ x3.length cQ] 33 (0,0)) by rw [hw];simpa using blk_set (blk_set (blk_set (blk_set BX.out 0 (.int .i64 x0)) 1 (.int .i64 x1)) 2 (.slice AP x2.length cP)) 3 (.slice AQ x3.length cQ));have HBn_:=Aside0.mk (show Below w.heap.size w w9 by rw [hw];exact below_set (below_set (below_set (below_set HB.out GEX.out) GEX.out) GEX.out) GEX.out);clear hz0 hz1 hz2 hz3 hf0 hf1 hf2 hf3 fa_ hw HB;have HB:=HBn_;clear HBn_;clear G0;have G0:=G0n_;clear G0n_;clear XP;have XP:=XPn_;clear XPn_;clear XQ;have XQ:=XQn_;clear XQn_;clear BB;have BB:=BBn_;clear BBn_;clear BX;have BX:=BXn_;clear BXn_;refine goesL_ _ rfl rfl Try.func15 (by kernel_rfl) rfl #[.agg #[.int .i64 x0,.int .i64 x1,.slice AP x2.length cP,.slice AQ x3.length cQ]] rfl (by (try simp only [mT,mC,mN]);first | done | rfl | (simp only [lD,lT];rfl)) ?_;(with_reducible refine (impl_EdgesOf.calls _ x0 x1 _ _ x2 _ _ x3 g0 g1 _ (cO ((Kd.R_reads' XP.out).2.2)) (Kd.R_reads' XP.out).2.1 (cO ((Kd.S_reads' XQ.out).2.2)) (Kd.S_reads' XQ.out).2.1 A6.out).mono ?_);rintro e w5 ⟨v0_,rfl,ho,hb⟩;refine ⟨_,rfl,?_⟩;have BBn_:=Aside0.mk (blk_below (by repeat (first | exact BB.out | refine blk_drewN ?_ _ | refine blk_drew ?_)) hb);have G0n_:=Aside0.mk (Kd.S_below (sO G0.out) hb);have XPn_:=Aside0.mk (Kd.R_below (rO XP.out) hb);have XQn_:=Aside0.mk (Kd.S_below (sO XQ.out) hb);have BXn_:=Aside0.mk (blk_below (by repeat (first | exact BX.out | refine blk_drewN ?_ _ | refine blk_drew ?_)) hb);have G1:=Aside0.mk (Kd.S_mono (ok':=fun k_ => N2 ≤ k_) (Kd.S_lower (Kd.S_bound ho) (show Below w.heap.size w _ from ib).size) (fun k_ hk_ => Nat.le_trans NX.out (Nat.le_trans (Nat.le_of_lt (blk_lt BX.out)) hk_.2.1)));have HBn_:=sb hb;clear HB;have HB:=HBn_;clear HBn_;clear BB;have BB:=BBn_;clear BBn_;clear G0;have G0:=G0n_;clear G0n_;clear XP;have XP:=XPn_;clear XPn_;clear XQ;have XQ:=XQn_;clear XQn_;clear BX;have BX:=BXn_;clear BXn_;clear A6;obtain ⟨AI,cI,eI_⟩:=Kd.S_slice G1.out;subst eI_;(try clear hb0 hb1 hb2 hb3);have hb0 : w5.cell? ⟨gB,0,none⟩ = some (.int .i64 a0_0):=(blk_cell BB.out 0).trans rfl;have hb1 : w5.cell? ⟨gB,1,none⟩ = some (.int .i64 a0_1):=(blk_cell BB.out 1).trans rfl;have hb2 : w5.cell? ⟨gB,2,none⟩ = some (.slice A0_2 l0_2.length c0_2):=(blk_cell BB.out 2).trans rfl;have hb3 : w5.cell? ⟨gB,3,none⟩ = some (.slice A0_3 l0_3.length c0_3):=(blk_cell BB.out 3).trans rfl;(try clear hx0 hx1 hx2 hx3);have hx0 : w5.cell? ⟨gX,0,none⟩ = some (.int .i64 x0):=(blk_cell BX.out 0).trans rfl;have hx1 : w5.cell? ⟨gX,1,none⟩ = some (.int .i64 x1):=(blk_cell BX.out 1).trans rfl;have hx2 : w5.cell? ⟨gX,2,none⟩ = some (.slice AP x2.length cP):=(blk_cell BX.out 2).trans rfl;have hx3 : w5.cell? ⟨gX,3,none⟩ = some (.slice AQ x3.length cQ):=(blk_cell BX.out 3).trans rfl;clear hb) | ((with_reducible refine gate_callee (f:=16) rfl ?_);refine goesL_ _ rfl rfl Try.func16 (by kernel_rfl) rfl #[.slice AI g0.length cI,.slice AG s0.length cG] rfl (by (try simp only [mT,mC,mN]);first | done | rfl | (simp only [lD,lT];rfl)) ?_;(with_reducible refine (laws_eqInt64SS.calls _ _ _ g0 _ _ s0 true _ (cO ((Kd.S_reads' G1.out).2.2)) (Kd.S_reads' G1.out).2.1 (cO ((Kd.S_reads' G0.out).2.2)) (Kd.S_reads' G0.out).2.1 A8.out).mono ?_);rintro e w5 ⟨rfl,hd_⟩;refine ⟨_,rfl,?_⟩;have hb:=hd_.below;clear hd_;have BBn_:=Aside0.mk (blk_below (by repeat (first | exact BB.out | refine blk_drewN ?_ _ | refine blk_drew ?_)) hb);have G0n_:=Aside0.mk (Kd.S_below (sO G0.out) hb);have XPn_:=Aside0.mk (Kd.R_below (rO XP.out) hb);have XQn_:=Aside0.mk (Kd.S_below (sO XQ.out) hb);have BXn_:=Aside0.mk (blk_below (by repeat (first | exact BX.out | refine blk_drewN ?_ _ | refine blk_drew ?_)) hb);have G1n_:=Aside0.mk (Kd.S_below (sO G1.out) hb);have HBn_:=sb hb;clear HB;have HB:=HBn_;clear HBn_;clear BB;have BB:=BBn_;clear BBn_;clear G0;have G0:=G0n_;clear G0n_;clear XP;have XP:=XPn_;clear XPn_;clear XQ;have XQ:=XQn_;clear XQn_;clear BX;have BX:=BXn_;clear BXn_;clear G1;have G1:=G1n_;clear G1n_;clear A8;(try clear hb0 hb1 hb2 hb3);have hb0 : w5.cell? ⟨gB,0,none⟩ = some (.int .i64 a0_0):=(blk_cell BB.out 0).trans rfl;have hb1 : w5.cell? ⟨gB,1,none⟩ = some (.int .i64 a0_1):=(blk_cell BB.out 1).trans rfl;have hb2 : w5.cell? ⟨gB,2,none⟩ = some (.slice A0_2 l0_2.length c0_2):=(blk_cell BB.out 2).trans rfl;have hb3 : w5.cell? ⟨gB,3,none⟩ = some (.slice A0_3 l0_3.length c0_3):=(blk_cell BB.out 3).trans rfl;(try clear hx0 hx1 hx2 hx3);have hx0 : w5.cell? ⟨gX,0,none⟩ = some (.int .i64 x0):=(blk_cell BX.out 0).trans rfl;have hx1 : w5.cell? ⟨gX,1,none⟩ = some (.int .i64 x1):=(blk_cell BX.out 1).trans rfl;have hx2 : w5.cell? ⟨gX,2,none⟩ = some (.slice AP x2.length cP):=(blk_cell BX.out 2).trans rfl;have hx3 : w5.cell? ⟨gX,3,none⟩ = some (.slice AQ x3.length cQ):=(blk_cell BX.out 3).trans rfl;clear hb))
  have G0n_:=Aside0.mk (Kd.S_drew G0.out)
  have G1n_:=Aside0.mk (Kd.S_drew G1.out)
  have XPn_:=Aside0.mk (Kd.R_drew XP.out)
  have XQn_:=Aside0.mk (Kd.S_drew XQ.out)
  have BBn_:=Aside0.mk (blk_drew BB.out)
  have BXn_:=Aside0.mk (blk_drew BX.out)
  have HBn_:=Aside0.mk (below_drew1 HB.out)
  clear HB hb0 hb1 hb2 hb3 hx0 hx1 hx2 hx3
  have HB:=HBn_
  clear HBn_
  clear G0
  have G0:=G0n_
  clear G0n_
  clear G1
  have G1:=G1n_
  clear G1n_
  clear XP
  have XP:=XPn_
  clear XPn_
  clear XQ
  have XQ:=XQn_
  clear XQn_
  clear BB
  have BB:=BBn_
  clear BBn_
  clear BX
  have BX:=BXn_
  clear BXn_
  refine start_ (n:=5) (S:=fun w' => w'.cell? ⟨gX,0,none⟩ = some (.int .i64 x0) ∧ w'.cell? ⟨gX,1,none⟩ = some (.int .i64 x1) ∧ w'.cell? ⟨gX,2,none⟩ = some (.slice AP x2.length cP) ∧ w'.cell? ⟨gX,3,none⟩ = some (.slice AQ x3.length cQ) ∧ w'.cell? ⟨gB,0,none⟩ = some (.int .i64 a0_0) ∧ w'.cell? ⟨gB,1,none⟩ = some (.int .i64 a0_1) ∧ w'.cell? ⟨gB,2,none⟩ = some (.slice A0_2 l0_2.length c0_2) ∧ w'.cell? ⟨gB,3,none⟩ = some (.slice A0_3 l0_3.length c0_3)) (ds:=[]) #[fF,fF,fF,fF,fF] (by kernel_rfl) rfl rfl ⟨(blk_cell BX.out 0).trans rfl,(blk_cell BX.out 1).trans rfl,(blk_cell BX.out 2).trans rfl,(blk_cell BX.out 3).trans rfl,(blk_cell BB.out 0).trans rfl,(blk_cell BB.out 1).trans rfl,(blk_cell BB.out 2).trans rfl,(blk_cell BB.out 3).trans rfl⟩ (fun hHeld => ?_)
  refine take_ (i:=0) (N:=some 41) (v:=?_) (a':=?_) #[tT,fF,fF,fF,fF] rfl rfl (by kernel_rfl) (fun _ _ _ h => h) (Or.inl ⟨by rfl,?_⟩) hHeld ?_ ?_
  rotate_left
  ·rintro w' ⟨s0_,s1_,s2_,s3_,s4_,s5_,s6_,s7_⟩
   go_simp
   with_reducible rfl
  rotate_left
  ·exact pa
  refine take_ (i:=1) (N:=some 42) (v:=?_) (a':=?_) #[tT,tT,fF,fF,fF] rfl rfl (by kernel_rfl) (fun _ _ _ h => h) (Or.inl ⟨by rfl,?_⟩) hHeld ?_ ?_
  rotate_left
  ·rintro w' ⟨s0_,s1_,s2_,s3_,s4_,s5_,s6_,s7_⟩
   go_simp
   with_reducible rfl
  rotate_left
  ·exact pa
  refine one_ (i:=2) (N:=some 43) #[tT,tT,tT,fF,fF] rfl rfl (by kernel_rfl) (by decide) (fun K hK => ?_)
  refine goes_ Try.func7 (by kernel_rfl) rfl #[.agg #[.int .i64 a0_0,.int .i64 a0_1,.slice A0_2 l0_2.length c0_2,.slice A0_3 l0_3.length c0_3]] (by rfl) rfl rfl (by (try simp only [mT,mC,mN]);first | done | rfl | (simp only [lD,lT];rfl)) ?_
  with_reducible refine (laws_toDrawing.calls _ a0_0 a0_1 _ _ l0_2 _ _ l0_3 q0 q1 q2 q3 _ (cO ((Kd.C_below HR0_2.out ib))) HC0_2.out (cO ((Kd.C_below HR0_3.out ib))) HC0_3.out A9.out).mono ?_
  rintro e w5 ⟨vp_,vf_,rfl,ho,hs,hb⟩
  refine ⟨_,rfl,?_⟩
  have BBn_:=Aside0.mk (blk_below (by repeat (first | exact BB.out | refine blk_drewN ?_ _ | refine blk_drew ?_)) hb);have G0n_:=Aside0.mk (Kd.S_below (sO G0.out) hb);have XPn_:=Aside0.mk (Kd.R_below (rO XP.out) hb);have XQn_:=Aside0.mk (Kd.S_below (sO XQ.out) hb);have BXn_:=Aside0.mk (blk_below (by repeat (first | exact BX.out | refine blk_drewN ?_ _ | refine blk_drew ?_)) hb);have G1n_:=Aside0.mk (Kd.S_below (sO G1.out) hb);have ZT:=Aside0.mk ho;have ZF:=Aside0.mk hs;have HBn_:=sb hb;clear HB;have HB:=HBn_;clear HBn_;clear BB;have BB:=BBn_;clear BBn_;clear G0;have G0:=G0n_;clear G0n_;clear XP;have XP:=XPn_;clear XPn_;clear XQ;have XQ:=XQn_;clear XQn_;clear BX;have BX:=BXn_;clear BXn_;clear G1;have G1:=G1n_;clear G1n_;clear A9;obtain ⟨AZ,cZ,eZ_⟩:=Kd.R_slice ZT.out;subst eZ_;obtain ⟨AY,cY,eY_⟩:=Kd.S_slice ZF.out;subst eY_;(try clear hb0 hb1 hb2 hb3)
  refine hK.out _ _ ⟨(blk_cell BX.out 0).trans rfl,(blk_cell BX.out 1).trans rfl,(blk_cell BX.out 2).trans rfl,(blk_cell BX.out 3).trans rfl,(blk_cell BB.out 0).trans rfl,(blk_cell BB.out 1).trans rfl,(blk_cell BB.out 2).trans rfl,(blk_cell BB.out 3).trans rfl⟩ (fun hHeld => ?_)
  clear hK K
  refine norm_ (a':=?_) ?_ ?_
  rotate_left
  ·show Act.put _ (some 43) _ = _
   simp only [Act.put,List.setIfInBounds_toArray,List.set_cons_zero,List.set_cons_succ,i64_w,i32_w]
   rfl
  refine one_ (i:=3) (N:=some 44) #[tT,tT,tT,tT,fF] rfl rfl (by kernel_rfl) (by decide) (fun K hK => ?_)
  refine goes_ Try.func10 (by kernel_rfl) rfl #[.agg #[.int .i64 x0,.int .i64 x1,.slice AP x2.length cP,.slice AQ x3.length cQ],.agg #[.int .i64 q0,.int .i64 q1,.slice AZ q2.length cZ,.slice AY q3.length cY]] (by rfl) rfl rfl (by (try simp only [mT,mC,mN]);first | done | rfl | (simp only [lD,lT];rfl)) ?_
  with_reducible refine (laws_eqDrawing.calls _ x0 x1 _ _ x2 _ _ x3 q0 q1 _ _ q2 _ _ q3 true _ (cO ((Kd.R_reads' XP.out).2.2)) (Kd.R_reads' XP.out).2.1 (cO ((Kd.S_reads' XQ.out).2.2)) (Kd.S_reads' XQ.out).2.1 (cO ((Kd.R_reads' ZT.out).2.2)) (Kd.R_reads' ZT.out).2.1 (cO ((Kd.S_reads' ZF.out).2.2)) (Kd.S_reads' ZF.out).2.1 A10.out).mono ?_
  rintro e w5 ⟨rfl,hb⟩
  refine ⟨_,rfl,?_⟩
  have BBn_:=Aside0.mk (blk_below (by repeat (first | exact BB.out | refine blk_drewN ?_ _ | refine blk_drew ?_)) hb);have G0n_:=Aside0.mk (Kd.S_below (sO G0.out) hb);have XPn_:=Aside0.mk (Kd.R_below (rO XP.out) hb);have XQn_:=Aside0.mk (Kd.S_below (sO XQ.out) hb);have BXn_:=Aside0.mk (blk_below (by repeat (first | exact BX.out | refine blk_drewN ?_ _ | refine blk_drew ?_)) hb);have G1n_:=Aside0.mk (Kd.S_below (sO G1.out) hb);have HBn_:=sb hb;clear HB;have HB:=HBn_;clear HBn_;clear BB;have BB:=BBn_;clear BBn_;clear G0;have G0:=G0n_;clear G0n_;clear XP;have XP:=XPn_;clear XPn_;clear XQ;have XQ:=XQn_;clear XQn_;clear BX;have BX:=BXn_;clear BXn_;clear G1;have G1:=G1n_;clear G1n_;clear A10 ZT ZF;(try clear hb0 hb1 hb2 hb3);have hb0 : w5.cell? ⟨gB,0,none⟩ = some (.int .i64 a0_0):=(blk_cell BB.out 0).trans rfl;have hb1 : w5.cell? ⟨gB,1,none⟩ = some (.int .i64 a0_1):=(blk_cell BB.out 1).trans rfl;have hb2 : w5.cell? ⟨gB,2,none⟩ = some (.slice A0_2 l0_2.length c0_2):=(blk_cell BB.out 2).trans rfl;have hb3 : w5.cell? ⟨gB,3,none⟩ = some (.slice A0_3 l0_3.length c0_3):=(blk_cell BB.out 3).trans rfl;(try clear hx0 hx1 hx2 hx3);have hx0 : w5.cell? ⟨gX,0,none⟩ = some (.int .i64 x0):=(blk_cell BX.out 0).trans rfl;have hx1 : w5.cell? ⟨gX,1,none⟩ = some (.int .i64 x1):=(blk_cell BX.out 1).trans rfl;have hx2 : w5.cell? ⟨gX,2,none⟩ = some (.slice AP x2.length cP):=(blk_cell BX.out 2).trans rfl;have hx3 : w5.cell? ⟨gX,3,none⟩ = some (.slice AQ x3.length cQ):=(blk_cell BX.out 3).trans rfl;clear hb
  refine hK.out _ _ ⟨(blk_cell BX.out 0).trans rfl,(blk_cell BX.out 1).trans rfl,(blk_cell BX.out 2).trans rfl,(blk_cell BX.out 3).trans rfl,(blk_cell BB.out 0).trans rfl,(blk_cell BB.out 1).trans rfl,(blk_cell BB.out 2).trans rfl,(blk_cell BB.out 3).trans rfl⟩ (fun hHeld => ?_)
  clear hK K
  refine norm_ (a':=?_) ?_ ?_
  rotate_left
  ·show Act.put _ (some 44) _ = _
   simp only [Act.put,List.setIfInBounds_toArray,List.set_cons_zero,List.set_cons_succ,i64_w,i32_w]
   rfl
  refine pure_ (i:=4) (N:=some 45) (v:=?_) (a':=?_) #[tT,tT,tT,tT,tT] rfl rfl (by kernel_rfl) (fun _ _ _ h => h) (Or.inl ⟨by rfl,?_⟩) ?_ ?_
  rotate_left
  ·intro w'
   go_simp
   with_reducible rfl
  rotate_left
  ·exact pa
  refine done_ (by kernel_rfl) ?_
  go_wp2_with (first | ((with_reducible refine gate_callee (f:=11) rfl ?_);refine goesL_ _ rfl rfl Try.func11 (by kernel_rfl) rfl #[.agg #[.int .i64 x0,.int .i64 x1,.slice AP x2.length cP,.slice AQ x3.length cQ],.int .i64 1] rfl (by (try simp only [mT,mC,mN]);first | done | rfl | (simp only [lD,lT];rfl)) ?_;(with_reducible refine (laws_markDrawing.calls _ (fun k_ => N1 ≤ k_ ∧ k_ < N2) x0 x1 _ x2 _ x3 1 t11 w _ ib (rO XP.out) (sO XQ.out) A11.out).mono ?_);rintro e w5 ⟨rfl,hb,hk⟩;refine ⟨_,rfl,?_⟩;have G0n_:=Aside0.mk (Kd.S_step (sO G0.out) (fun k_ h1_ hlt => hk.2 k_ hlt (fun h2_ => Nat.not_lt.2 h2_.1 h1_)));have G1n_:=Aside0.mk (Kd.S_step (sO G1.out) (fun k_ h1_ hlt => hk.2 k_ hlt (fun h2_ => Nat.not_lt.2 h1_ h2_.2)));have BBn_:=Aside0.mk ((hk.2 gB (blk_lt BB.out) (fun h2_ => Nat.not_lt.2 h2_.1 GBN.out)).trans BB.out);have HBn_:=Aside0.mk hb;clear HB XP XQ BX hx0 hx1 hx2 hx3;have HB:=HBn_;clear HBn_ hk hb;clear G0;have G0:=G0n_;clear G0n_;clear G1;have G1:=G1n_;clear G1n_;clear BB;have BB:=BBn_;clear BBn_;clear A11;(try clear hb0 hb1 hb2 hb3);have hb0 : w5.cell? ⟨gB,0,none⟩ = some (.int .i64 a0_0):=(blk_cell BB.out 0).trans rfl;have hb1 : w5.cell? ⟨gB,1,none⟩ = some (.int .i64 a0_1):=(blk_cell BB.out 1).trans rfl;have hb2 : w5.cell? ⟨gB,2,none⟩ = some (.slice A0_2 l0_2.length c0_2):=(blk_cell BB.out 2).trans rfl;have hb3 : w5.cell? ⟨gB,3,none⟩ = some (.slice A0_3 l0_3.length c0_3):=(blk_cell BB.out 3).trans rfl) | (go_at_call 16;(with_reducible refine (laws_eqInt64SS.calls _ _ _ g0 _ _ s0 true _ (cO ((Kd.S_reads' G1.out).2.2)) (Kd.S_reads' G1.out).2.1 (cO ((Kd.S_reads' G0.out).2.2)) (Kd.S_reads' G0.out).2.1 A13.out).mono ?_);rintro e w5 ⟨rfl,hd_⟩;have hb:=hd_.below;clear hd_;have BBn_:=Aside0.mk (blk_below (by repeat (first | exact BB.out | refine blk_drewN ?_ _ | refine blk_drew ?_)) hb);have G0n_:=Aside0.mk (Kd.S_below (sO G0.out) hb);have G1n_:=Aside0.mk (Kd.S_below (sO G1.out) hb);have HBn_:=sb hb;clear HB;have HB:=HBn_;clear HBn_;clear BB;have BB:=BBn_;clear BBn_;clear G0;have G0:=G0n_;clear G0n_;clear G1;have G1:=G1n_;clear G1n_;clear A13;(try clear hb0 hb1 hb2 hb3);have hb0 : w5.cell? ⟨gB,0,none⟩ = some (.int .i64 a0_0):=(blk_cell BB.out 0).trans rfl;have hb1 : w5.cell? ⟨gB,1,none⟩ = some (.int .i64 a0_1):=(blk_cell BB.out 1).trans rfl;have hb2 : w5.cell? ⟨gB,2,none⟩ = some (.slice A0_2 l0_2.length c0_2):=(blk_cell BB.out 2).trans rfl;have hb3 : w5.cell? ⟨gB,3,none⟩ = some (.slice A0_3 l0_3.length c0_3):=(blk_cell BB.out 3).trans rfl;clear hb) | ((with_reducible refine gate_callee (f:=17) rfl ?_);refine goesL_ _ rfl rfl Try.func17 (by kernel_rfl) rfl #[.slice AI g0.length cI,.int .i64 1] rfl (by (try simp only [mT,mC,mN]);first | done | rfl | (simp only [lD,lT];rfl)) ?_;(with_reducible refine (laws_markInt64SS.calls _ (fun k_ => N2 ≤ k_) _ g0 1 t21 y2 w _ ib (sO G1.out) A14.out).mono ?_);rintro e w5 ⟨rfl,ho,hb,hk⟩;refine ⟨_,rfl,?_⟩;have G0n_:=Aside0.mk (Kd.S_step (sO G0.out) (fun k_ h1_ hlt => hk.2 k_ hlt (fun h2_ => Nat.not_lt.2 (Nat.le_trans B12.out h2_) h1_)));have BBn_:=Aside0.mk ((hk.2 gB (blk_lt BB.out) (fun h2_ => Nat.not_lt.2 (Nat.le_trans B12.out h2_) GBN.out)).trans BB.out);have HBn_:=Aside0.mk hb;have G2:=Aside0.mk (Kd.S_mono (ok':=fun _ => True) ho (fun _ _ => trivial));clear HB G1;have HB:=HBn_;clear HBn_ hk ho hb;clear G0;have G0:=G0n_;clear G0n_;clear BB;have BB:=BBn_;clear BBn_;clear A14;(try clear hb0 hb1 hb2 hb3);have hb0 : w5.cell? ⟨gB,0,none⟩ = some (.int .i64 a0_0):=(blk_cell BB.out 0).trans rfl;have hb1 : w5.cell? ⟨gB,1,none⟩ = some (.int .i64 a0_1):=(blk_cell BB.out 1).trans rfl;have hb2 : w5.cell? ⟨gB,2,none⟩ = some (.slice A0_2 l0_2.length c0_2):=(blk_cell BB.out 2).trans rfl;have hb3 : w5.cell? ⟨gB,3,none⟩ = some (.slice A0_3 l0_3.length c0_3):=(blk_cell BB.out 3).trans rfl;have eL_ : y2.length = g0.length:=(Kd.S_reads' G2.out).1.symm;have G2n_:=Aside0.mk (show Kd.S (Kd.slice 2 (Kd.int .i64)) 27 w5 w.heap.size (fun _ => True) (.slice AI y2.length cI) y2 by (rw [eL_];exact G2.out));clear G2;have G2:=G2n_;clear G2n_;rw [← eL_];clear eL_) | ((with_reducible refine gate_callee (f:=18) rfl ?_);refine goesL_ _ rfl rfl Try.func18 (by kernel_rfl) rfl #[.slice AI y2.length cI,.int .i64 1] rfl (by (try simp only [mT,mC,mN]);first | done | rfl | (simp only [lD,lT];rfl)) ?_;(with_reducible refine (laws_heldInt64SS.calls _ _ _ y2 1 t21 _ (cO ((Kd.S_reads' G2.out).2.2)) (Kd.S_reads' G2.out).2.1 A16.out).mono ?_);rintro e w5 ⟨rfl,⟨nd,rfl⟩⟩;refine ⟨_,rfl,?_⟩;clear A16) | ((with_reducible refine gate_callee (f:=7) rfl ?_);refine goesL_ _ rfl rfl Try.func7 (by kernel_rfl) rfl #[.agg #[.int .i64 a0_0,.int .i64 a0_1,.slice A0_2 l0_2.length c0_2,.slice A0_3 l0_3.length c0_3]] rfl (by (try simp only [mT,mC,mN]);first | done | rfl | (simp only [lD,lT];rfl)) ?_;(with_reducible refine (laws_toDrawing.calls _ a0_0 a0_1 _ _ l0_2 _ _ l0_3 z0 z1 z2 z3 _ (cO ((Kd.C_below HR0_2.out ib))) HC0_2.out (cO ((Kd.C_below HR0_3.out ib))) HC0_3.out A17.out).mono ?_);rintro e w5 ⟨vp_,vf_,rfl,ho,hs,hb⟩;refine ⟨_,rfl,?_⟩;have BBn_:=Aside0.mk (blk_below (by repeat (first | exact BB.out | refine blk_drewN ?_ _ | refine blk_drew ?_)) hb);have G0n_:=Aside0.mk (Kd.S_below (sO G0.out) hb);have G2n_:=Aside0.mk (Kd.S_below (sO G2.out) hb);have XT:=Aside0.mk ho;have XF:=Aside0.mk hs;have HBn_:=sb hb;clear HB;have HB:=HBn_;clear HBn_;clear BB;have BB:=BBn_;clear BBn_;clear G0;have G0:=G0n_;clear G0n_;clear G2;have G2:=G2n_;clear G2n_;clear A17;obtain ⟨AT,cT,eT_⟩:=Kd.R_slice XT.out;subst eT_;obtain ⟨AF,cF,eF_⟩:=Kd.S_slice XF.out;subst eF_;(try clear hb0 hb1 hb2 hb3);have hb0 : w5.cell? ⟨gB,0,none⟩ = some (.int .i64 a0_0):=(blk_cell BB.out 0).trans rfl;have hb1 : w5.cell? ⟨gB,1,none⟩ = some (.int .i64 a0_1):=(blk_cell BB.out 1).trans rfl;have hb2 : w5.cell? ⟨gB,2,none⟩ = some (.slice A0_2 l0_2.length c0_2):=(blk_cell BB.out 2).trans rfl;have hb3 : w5.cell? ⟨gB,3,none⟩ = some (.slice A0_3 l0_3.length c0_3):=(blk_cell BB.out 3).trans rfl;clear hb) | ((with_reducible refine gate_callee (f:=15) rfl ?_);refine goesL_ _ rfl rfl Try.func15 (by kernel_rfl) rfl #[.agg #[.int .i64 z0,.int .i64 z1,.slice AT z2.length cT,.slice AF z3.length cF]] rfl (by (try simp only [mT,mC,mN]);first | done | rfl | (simp only [lD,lT];rfl)) ?_;(with_reducible refine (impl_EdgesOf.calls _ z0 z1 _ _ z2 _ _ z3 u0 u1 _ (cO ((Kd.R_reads' XT.out).2.2)) (Kd.R_reads' XT.out).2.1 (cO ((Kd.S_reads' XF.out).2.2)) (Kd.S_reads' XF.out).2.1 A18.out).mono ?_);rintro e w5 ⟨v0_,rfl,ho,hb⟩;refine ⟨_,rfl,?_⟩;have BBn_:=Aside0.mk (blk_below (by repeat (first | exact BB.out | refine blk_drewN ?_ _ | refine blk_drew ?_)) hb);have G0n_:=Aside0.mk (Kd.S_below (sO G0.out) hb);have G2n_:=Aside0.mk (Kd.S_below (sO G2.out) hb);have G3:=Aside0.mk ho;have HBn_:=sb hb;clear HB;have HB:=HBn_;clear HBn_;clear BB;have BB:=BBn_;clear BBn_;clear G0;have G0:=G0n_;clear G0n_;clear G2;have G2:=G2n_;clear G2n_;clear A18 XT XF;obtain ⟨AH,cH,eH_⟩:=Kd.S_slice G3.out;subst eH_;(try clear hb0 hb1 hb2 hb3);have hb0 : w5.cell? ⟨gB,0,none⟩ = some (.int .i64 a0_0):=(blk_cell BB.out 0).trans rfl;have hb1 : w5.cell? ⟨gB,1,none⟩ = some (.int .i64 a0_1):=(blk_cell BB.out 1).trans rfl;have hb2 : w5.cell? ⟨gB,2,none⟩ = some (.slice A0_2 l0_2.length c0_2):=(blk_cell BB.out 2).trans rfl;have hb3 : w5.cell? ⟨gB,3,none⟩ = some (.slice A0_3 l0_3.length c0_3):=(blk_cell BB.out 3).trans rfl;clear hb) | ((with_reducible refine gate_callee (f:=16) rfl ?_);refine goesL_ _ rfl rfl Try.func16 (by kernel_rfl) rfl #[.slice AH u0.length cH,.slice AG s0.length cG] rfl (by (try simp only [mT,mC,mN]);first | done | rfl | (simp only [lD,lT];rfl)) ?_;(with_reducible refine (laws_eqInt64SS.calls _ _ _ u0 _ _ s0 true _ (cO ((Kd.S_reads' G3.out).2.2)) (Kd.S_reads' G3.out).2.1 (cO ((Kd.S_reads' G0.out).2.2)) (Kd.S_reads' G0.out).2.1 A20.out).mono ?_);rintro e w5 ⟨rfl,hd_⟩;refine ⟨_,rfl,?_⟩;have hb:=hd_.below;clear hd_;have BBn_:=Aside0.mk (blk_below (by repeat (first | exact BB.out | refine blk_drewN ?_ _ | refine blk_drew ?_)) hb);have G0n_:=Aside0.mk (Kd.S_below (sO G0.out) hb);have G2n_:=Aside0.mk (Kd.S_below (sO G2.out) hb);have G3n_:=Aside0.mk (Kd.S_below (sO G3.out) hb);have HBn_:=sb hb;clear HB;have HB:=HBn_;clear HBn_;clear BB;have BB:=BBn_;clear BBn_;clear G0;have G0:=G0n_;clear G0n_;clear G2;have G2:=G2n_;clear G2n_;clear G3;have G3:=G3n_;clear G3n_;clear A20;(try clear hb0 hb1 hb2 hb3);have hb0 : w5.cell? ⟨gB,0,none⟩ = some (.int .i64 a0_0):=(blk_cell BB.out 0).trans rfl;have hb1 : w5.cell? ⟨gB,1,none⟩ = some (.int .i64 a0_1):=(blk_cell BB.out 1).trans rfl;have hb2 : w5.cell? ⟨gB,2,none⟩ = some (.slice A0_2 l0_2.length c0_2):=(blk_cell BB.out 2).trans rfl;have hb3 : w5.cell? ⟨gB,3,none⟩ = some (.slice A0_3 l0_3.length c0_3):=(blk_cell BB.out 3).trans rfl;clear hb) | ((with_reducible refine gate_callee (f:=18) rfl ?_);refine goesL_ _ rfl rfl Try.func18 (by kernel_rfl) rfl #[.slice AI y2.length cI,.int .i64 1] rfl (by (try simp only [mT,mC,mN]);first | done | rfl | (simp only [lD,lT];rfl)) ?_;(with_reducible refine (laws_heldInt64SS.calls _ _ _ y2 1 t21 _ (cO ((Kd.S_reads' G2.out).2.2)) (Kd.S_reads' G2.out).2.1 A21.out).mono ?_);rintro e w5 ⟨rfl,⟨nd,rfl⟩⟩;refine ⟨_,rfl,?_⟩;clear A21))
  go_ret
  exact ⟨(by first | rfl | (simp;done) | (simp [*];done)),ib⟩
end Go.Proofs.Ytpeebobdbaemiaa.PFnExactEdgesOf
