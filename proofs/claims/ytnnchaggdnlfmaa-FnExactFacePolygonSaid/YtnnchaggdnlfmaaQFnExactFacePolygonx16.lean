/- Contracts of functions that FnExactFacePolygon reaches, out of the lines of the kit's print. -/
import Derived.Test.YtnnchaggdnlfmaaQFnExactFacePolygonx0
import Derived.Test.YtnnchaggdnlfmaaQFnExactFacePolygonx2
import Derived.Test.YtnnchaggdnlfmaaQFnExactFacePolygonx3
import Derived.Test.YtnnchaggdnlfmaaQFnExactFacePolygonx4
import Derived.Test.YtnnchaggdnlfmaaQFnExactFacePolygonx5
import Derived.Test.YtnnchaggdnlfmaaQFnExactFacePolygonx10
import Derived.Test.YtnnchaggdnlfmaaQFnExactFacePolygonx11
import Derived.Test.YtnnchaggdnlfmaaQFnExactFacePolygonx14
import Derived.Test.YtnnchaggdnlfmaaQFnExactFacePolygonx15
namespace Go.Proofs.Ytnnchaggdnlfmaa.PFnExactFacePolygon
set_option maxHeartbeats 8000000
set_option maxRecDepth 100000
open Go.RowKit Go.Proofs.YtnnchaggdnlfmaaW.PrintWords Go.Proofs.YtnnchaggdnlfmaaW.PrintLast Go.Proofs.YtnnchaggdnlfmaaW.PrintMore
open Bool renaming true → tT, false → fF
open Go.World renaming block_lt_of_cell? → bL
open List renaming length_take → lT, length_drop → lD, map_toArray → mT, map_cons → mC, map_nil → mN
open Option renaming bind_eq_some_iff → bE
attribute [local go_sem] max2_int min2_int max_two min_two max_three min_three max_four min_four
set_option linter.unusedVariables false
set_option linter.unusedSimpArgs false
def impl_faceIndex.l0 : Nat → List Int → Int → Int → Int → Int → List (S73) → List (S103) → Option (Int)
 | 0,_,_,_,_,_,_,_ => none
 | k + 1,x10,x11,x12,x367000,x367001,x367002,x367003 => if x12 < x11 then (if 0 ≤ x12 then (if x12 < (x10.length : Int) then ((impl_within.f (rd x10 x12) 0 (wrap64 ((x367003.length : Int) - 1))).bind fun t369 => (if t369 = true then (impl_faceIndex.l0 k x10 x11 (wrap64 (x12 + 1)) x367000 x367001 x367002 x367003) else (some 2))) else (none)) else (none)) else (some 0)
def impl_faceIndex.f (k : Nat) (a0_0 : Int) (a0_1 : Int) (l0_2 : List (S73)) (l0_3 : List (S103)) (l1 : List Int) : Option (Int):=(impl_ValidDrawing.f k a0_0 a0_1 l0_2 l0_3).bind fun t367 => (if t367 = true then (impl_faceIndex.l0 k l1 (l1.length : Int) 0 a0_0 a0_1 l0_2 l0_3) else (some 1))
theorem impl_faceIndex.calls (k : Nat) (a0_0 : Int) (a0_1 : Int) (A0_2 : Option Addr) (c0_2 : Nat) (l0_2 : List (S73)) (A0_3 : Option Addr) (c0_3 : Nat) (l0_3 : List (S103)) (A1 : Option Addr) (c1 : Nat) (l1 : List Int) (r : Int) (w : World) (hr0_2 : Kd.C k73 w A0_2 l0_2.length l0_2) (hc0_2 : l0_2.length ≤ c0_2) (hr0_3 : Kd.C k103 w A0_3 l0_3.length l0_3) (hc0_3 : l0_3.length ≤ c0_3) (hr1 : Kd.C (Kd.int .i64) w A1 l1.length l1) (hc1 : l1.length ≤ c1) (h : impl_faceIndex.f k a0_0 a0_1 l0_2 l0_3 l1 = some r) :
  Calls Try.prog 91 #[.agg #[.int .i64 a0_0,.int .i64 a0_1,.slice A0_2 l0_2.length c0_2,.slice A0_3 l0_3.length c0_3],.slice A1 l1.length c1] w fun e w' => e = .returned (.int .i64 r) ∧ Below w.heap.size w w':=by
 have hu51:=Try.underlying51
 have HR0_2:=Aside0.mk hr0_2
 have HC0_2:=Aside0.mk hc0_2
 clear hr0_2 hc0_2
 have HR0_3:=Aside0.mk hr0_3
 have HC0_3:=Aside0.mk hc0_3
 clear hr0_3 hc0_3
 have HR1:=Aside0.mk hr1
 have HC1:=Aside0.mk hc1
 clear hr1 hc1
 have HB:=Aside0.mk (Below.refl w.heap.size w)
 have H : ((impl_ValidDrawing.f k a0_0 a0_1 l0_2 l0_3).bind fun t367 => (if t367 = true then (impl_faceIndex.l0 k l1 (l1.length : Int) 0 a0_0 a0_1 l0_2 l0_3) else (some 1))) = some r:=h
 clear h
 replace H:=bE.mp H
 obtain ⟨t367,A30,H⟩:=H
 replace H : (if t367 = true then (impl_faceIndex.l0 k l1 (l1.length : Int) 0 a0_0 a0_1 l0_2 l0_3) else (some 1)) = some r:=H
 have A3:=Aside0.mk A30
 clear A30
 by_cases c4 : t367 = true
 ·subst c4
  have H1 : (impl_faceIndex.l0 k l1 (l1.length : Int) 0 a0_0 a0_1 l0_2 l0_3) = some r:=by rw [if_pos rfl] at H;exact H
  clear H
  have H:=H1
  clear H1
  have H':=Aside0.mk H
  clear H
  go_enter Try.func91,Try.ntmps91
  go_wp2_with (first | ((with_reducible refine gate_dst (N:=2) rfl ?_);refine bx (cs:=#[.int .i64 a0_0,.int .i64 a0_1,.slice A0_2 l0_2.length c0_2,.slice A0_3 l0_3.length c0_3]) (t:=51) ?_;intro gb366 hg w5 hbox hb;have BK366:=Aside0.mk (hbox);have GW366:=zb hg;have GE366:=zb hg;replace HB:=sb hb;clear hb hbox hg;have hcz6_0:=ck BK366 0;have hcz6_1:=ck BK366 1;have hcz6_2:=ck BK366 2;have hcz6_3:=ck BK366 3;have hfz6_0:=blk_frozen BK366.out 0;have hfz6_1:=blk_frozen BK366.out 1;have hfz6_2:=blk_frozen BK366.out 2;have hfz6_3:=blk_frozen BK366.out 3) | ((with_reducible refine gate_callee (f:=77) rfl ?_);refine goesL_ (some 8) rfl rfl Try.func77 (by kernel_rfl) rfl #[.agg #[.int .i64 a0_0,.int .i64 a0_1,.slice A0_2 l0_2.length c0_2,.slice A0_3 l0_3.length c0_3]] rfl (by (try simp only [mT,mC,mN]);first | done | rfl | (simp only [lD,lT];rfl)) ?_;(with_reducible refine (impl_ValidDrawing.calls k a0_0 a0_1 _ _ l0_2 _ _ l0_3 true _ ?side1 ?side2 ?side3 ?side4 A3.out).mono ?_);(case side1 => repeat (first | exact (Kd.C_below HR0_2.out HB.out) | exact HR0_2.out | (with_reducible refine Kd.C_alloc ?_ _) | (with_reducible refine Kd.C_drewN ?_ _) | (with_reducible refine Kd.C_drew ?_)));(case side2 => exact HC0_2.out);(case side3 => repeat (first | exact (Kd.C_below HR0_3.out HB.out) | exact HR0_3.out | (with_reducible refine Kd.C_alloc ?_ _) | (with_reducible refine Kd.C_drewN ?_ _) | (with_reducible refine Kd.C_drew ?_)));(case side4 => exact HC0_3.out);rintro e w7 ⟨rfl,hb⟩;refine ⟨_,rfl,?_⟩;replace BK366:=kb BK366 hb;replace HB:=sb hb;(try clear hb);(try clear hb2);(try clear hk);(try clear hi)))
  go_loopg [12] k (fun kq v12 w' => ∃ (x12_1 : Int),v12 = .int .i64 x12_1 ∧ Aside0 (impl_faceIndex.l0 kq l1 (l1.length : Int) x12_1 a0_0 a0_1 l0_2 l0_3 = some r) ∧ Aside0 (kq ≤ k) ∧ Aside0 (w'.heap[gb366]? = some (.cells #[.int .i64 a0_0,.int .i64 a0_1,(.slice A0_2 l0_2.length c0_2),(.slice A0_3 l0_3.length c0_3)] 51 (0,0))) ∧ Aside0 (Below w.heap.size w w'))
  case atStart => exact ⟨(0),(by first | rfl | (simp;done) | (simp [*];done)),H',⟨Nat.le_refl _⟩,⟨by exact bk BK366⟩,⟨ib⟩⟩
  case round =>
   clear H'
   try clear c1
   try clear p2
   try clear c4
   try clear c7
   try clear hcz6_0
   try clear hcz6_1
   try clear hcz6_2
   try clear hcz6_3
   try clear hfz6_0
   try clear hfz6_1
   try clear hfz6_2
   try clear hfz6_3
   obtain ⟨x12_1,rfl,HA,HK1,BK366,HB⟩:=hrel
   cases gk with
   | zero => exact absurd HA.out (by simp [impl_faceIndex.l0])
   | succ k1 =>
    have H:=HA.out
    clear HA
    simp only [impl_faceIndex.l0] at H
    by_cases c8 : x12_1 < (l1.length : Int)
    ·rw [if_pos c8] at H
     have c8b0 : decide (x12_1 < (l1.length : Int)) = true:=decide_eq_true c8
     clear c8
     by_cases c9 : 0 ≤ x12_1
     ·rw [if_pos c9] at H
      have c9b0 : decide (0 ≤ x12_1) = true:=decide_eq_true c9
      clear c9
      by_cases c10 : x12_1 < (l1.length : Int)
      ·rw [if_pos c10] at H
       have c10b0 : decide (x12_1 < (l1.length : Int)) = true:=decide_eq_true c10
       clear c10
       replace H:=bE.mp H
       obtain ⟨t369,A110,H⟩:=H
       replace H : (if t369 = true then (impl_faceIndex.l0 k1 l1 (l1.length : Int) (wrap64 (x12_1 + 1)) a0_0 a0_1 l0_2 l0_3) else (some 2)) = some r:=H
       have A11:=Aside0.mk A110
       clear A110
       by_cases c12 : t369 = true
       ·subst c12
        have H1 : (impl_faceIndex.l0 k1 l1 (l1.length : Int) (wrap64 (x12_1 + 1)) a0_0 a0_1 l0_2 l0_3) = some r:=by rw [if_pos rfl] at H;exact H
        clear H
        have H:=H1
        clear H1
        have H':=Aside0.mk H
        clear H
        have p368 : 0 ≤ (x12_1 : Int):=da
        have q368 : x12_1 < (l1.length : Int):=da
        obtain ⟨ad368,e368,hx368_0⟩:=Kd.at_int HR1.out x12_1 p368 q368
        cases e368
        replace hx368_0:=cq HB.out hx368_0
        replace p368:=eq_true p368
        replace q368:=eq_true q368
        have hcz13_0 : wr.cell? ⟨gb366,0,none⟩ = some (.int .i64 a0_0):=(blk_cell BK366.out 0).trans rfl
        have hcz13_1 : wr.cell? ⟨gb366,1,none⟩ = some (.int .i64 a0_1):=(blk_cell BK366.out 1).trans rfl
        have hcz13_2 : wr.cell? ⟨gb366,2,none⟩ = some (.slice A0_2 l0_2.length c0_2):=(blk_cell BK366.out 2).trans rfl
        have hcz13_3 : wr.cell? ⟨gb366,3,none⟩ = some (.slice A0_3 l0_3.length c0_3):=(blk_cell BK366.out 3).trans rfl
        have hfz13_0:=blk_frozen BK366.out 0
        have hfz13_1:=blk_frozen BK366.out 1
        have hfz13_2:=blk_frozen BK366.out 2
        have hfz13_3:=blk_frozen BK366.out 3
        go_wp2_with (first | ((with_reducible refine gate_callee (f:=62) rfl ?_);refine goesL_ (some 21) rfl rfl Try.func62 (by kernel_rfl) rfl #[.int .i64 (rd l1 x12_1),.int .i64 0,.int .i64 (wrap64 ((l0_3.length : Int) - 1))] rfl (by (try simp only [mT,mC,mN]);first | done | rfl | (simp only [lD,lT];rfl)) ?_;(with_reducible refine (impl_within.calls (rd l1 x12_1) 0 (wrap64 ((l0_3.length : Int) - 1)) true _ A11.out).mono ?_);rintro e w' ⟨rfl,⟨nd,rfl⟩⟩;refine ⟨_,rfl,?_⟩))
        go_roundg k1
        case measure => have:=HK1.out;omega
        case rel => exact ⟨(wrap64 (x12_1 + 1)),(by first | rfl | (simp;done) | (simp [*];done)),H',⟨by have:=HK1.out;omega⟩,⟨by exact bk BK366⟩,⟨ib⟩⟩
       ·replace c12:=Bool.eq_false_iff.mpr c12
        subst c12
        have H1 : (some 2) = some r:=by rw [if_neg (show ¬ (false = true) by decide)] at H;exact H
        clear H
        have H:=H1
        clear H1
        obtain rfl:=Option.some.inj H
        have p368 : 0 ≤ (x12_1 : Int):=da
        have q368 : x12_1 < (l1.length : Int):=da
        obtain ⟨ad368,e368,hx368_0⟩:=Kd.at_int HR1.out x12_1 p368 q368
        cases e368
        replace hx368_0:=cq HB.out hx368_0
        replace p368:=eq_true p368
        replace q368:=eq_true q368
        have hcz14_0 : wr.cell? ⟨gb366,0,none⟩ = some (.int .i64 a0_0):=(blk_cell BK366.out 0).trans rfl
        have hcz14_1 : wr.cell? ⟨gb366,1,none⟩ = some (.int .i64 a0_1):=(blk_cell BK366.out 1).trans rfl
        have hcz14_2 : wr.cell? ⟨gb366,2,none⟩ = some (.slice A0_2 l0_2.length c0_2):=(blk_cell BK366.out 2).trans rfl
        have hcz14_3 : wr.cell? ⟨gb366,3,none⟩ = some (.slice A0_3 l0_3.length c0_3):=(blk_cell BK366.out 3).trans rfl
        have hfz14_0:=blk_frozen BK366.out 0
        have hfz14_1:=blk_frozen BK366.out 1
        have hfz14_2:=blk_frozen BK366.out 2
        have hfz14_3:=blk_frozen BK366.out 3
        go_wp2_with (first | ((with_reducible refine gate_callee (f:=62) rfl ?_);refine goesL_ (some 21) rfl rfl Try.func62 (by kernel_rfl) rfl #[.int .i64 (rd l1 x12_1),.int .i64 0,.int .i64 (wrap64 ((l0_3.length : Int) - 1))] rfl (by (try simp only [mT,mC,mN]);first | done | rfl | (simp only [lD,lT];rfl)) ?_;(with_reducible refine (impl_within.calls (rd l1 x12_1) 0 (wrap64 ((l0_3.length : Int) - 1)) false _ A11.out).mono ?_);rintro e w' ⟨rfl,⟨nd,rfl⟩⟩;refine ⟨_,rfl,?_⟩))
        go_ret
        exact ⟨by first | rfl | (simp [errW_none,errW_some] <;> rfl) | (simp [*,errW_none,errW_some] <;> rfl),ib⟩
      ·first | (exfalso;have z_:=of_decide_eq_true c8b0;omega) | (rw [if_neg c10] at H;exact absurd H (by simp))
     ·rw [if_neg c9] at H
      exact absurd H (by simp)
    ·rw [if_neg c8] at H
     have c8b0 : decide (x12_1 < (l1.length : Int)) = false:=decide_eq_false c8
     clear c8
     obtain rfl:=Option.some.inj H
     go_wp2
     go_ret
     exact ⟨by first | rfl | (simp [errW_none,errW_some] <;> rfl) | (simp [*,errW_none,errW_some] <;> rfl),ib⟩
 ·replace c4:=Bool.eq_false_iff.mpr c4
  subst c4
  have H1 : (some 1) = some r:=by rw [if_neg (show ¬ (false = true) by decide)] at H;exact H
  clear H
  have H:=H1
  clear H1
  obtain rfl:=Option.some.inj H
  go_enter Try.func91,Try.ntmps91
  go_wp2_with (first | ((with_reducible refine gate_dst (N:=2) rfl ?_);refine bx (cs:=#[.int .i64 a0_0,.int .i64 a0_1,.slice A0_2 l0_2.length c0_2,.slice A0_3 l0_3.length c0_3]) (t:=51) ?_;intro gb366 hg w15 hbox hb;have BK366:=Aside0.mk (hbox);have GW366:=zb hg;have GE366:=zb hg;replace HB:=sb hb;clear hb hbox hg;have hcz16_0:=ck BK366 0;have hcz16_1:=ck BK366 1;have hcz16_2:=ck BK366 2;have hcz16_3:=ck BK366 3;have hfz16_0:=blk_frozen BK366.out 0;have hfz16_1:=blk_frozen BK366.out 1;have hfz16_2:=blk_frozen BK366.out 2;have hfz16_3:=blk_frozen BK366.out 3) | ((with_reducible refine gate_callee (f:=77) rfl ?_);refine goesL_ (some 8) rfl rfl Try.func77 (by kernel_rfl) rfl #[.agg #[.int .i64 a0_0,.int .i64 a0_1,.slice A0_2 l0_2.length c0_2,.slice A0_3 l0_3.length c0_3]] rfl (by (try simp only [mT,mC,mN]);first | done | rfl | (simp only [lD,lT];rfl)) ?_;(with_reducible refine (impl_ValidDrawing.calls k a0_0 a0_1 _ _ l0_2 _ _ l0_3 false _ ?side1 ?side2 ?side3 ?side4 A3.out).mono ?_);(case side1 => repeat (first | exact (Kd.C_below HR0_2.out HB.out) | exact HR0_2.out | (with_reducible refine Kd.C_alloc ?_ _) | (with_reducible refine Kd.C_drewN ?_ _) | (with_reducible refine Kd.C_drew ?_)));(case side2 => exact HC0_2.out);(case side3 => repeat (first | exact (Kd.C_below HR0_3.out HB.out) | exact HR0_3.out | (with_reducible refine Kd.C_alloc ?_ _) | (with_reducible refine Kd.C_drewN ?_ _) | (with_reducible refine Kd.C_drew ?_)));(case side4 => exact HC0_3.out);rintro e w17 ⟨rfl,hb⟩;refine ⟨_,rfl,?_⟩;replace BK366:=kb BK366 hb;replace HB:=sb hb;(try clear hb);(try clear hb2);(try clear hk);(try clear hi)))
  go_ret
  exact ⟨by first | rfl | (simp [errW_none,errW_some] <;> rfl) | (simp [*,errW_none,errW_some] <;> rfl),ib⟩
def impl_facePolygon.f (k : Nat) (a0_0 : Int) (a0_1 : Int) (l0_2 : List (S73)) (l0_3 : List (S103)) (a1 : Int) : Option ((List (S73))):=if 0 ≤ a1 then (if a1 < (l0_3.length : Int) then ((impl_ringPolygon.f k l0_2 ((rd_T103 l0_3 a1).f1)).bind fun bt372 => (some bt372.1)) else (none)) else (none)
def impl_facePolygon.T1 : Bool × List (List Nat × List Nat):=(true,[([],[]),([0],[0]),([],[]),([2],[2]),([],[]),([3,4],[3,4]),([5],[5]),([6],[6]),([1,7],[1,7]),([8],[8]),([9],[9]),([9],[9]),([10,8,0,1,2,3,4,5,6,7,8,9,10],[10]),([11,12,0,1,2,3,4,5,6,7,8,9,10,11,12],[11])])
def impl_facePolygon.B1 : List Nat:=[0,1,0,4,0,28,60,124,255,511,1023,1023,2047,8191]
theorem impl_facePolygon.tab1 : rtab .any (opsOf Try.f92 1) = impl_facePolygon.T1:=by kernel_rfl
theorem impl_facePolygon.bits1 : waitsOk impl_facePolygon.T1.2 impl_facePolygon.B1 = true:=by kernel_rfl
theorem impl_facePolygon.calls (k : Nat) (a0_0 : Int) (a0_1 : Int) (A0_2 : Option Addr) (c0_2 : Nat) (l0_2 : List (S73)) (A0_3 : Option Addr) (c0_3 : Nat) (l0_3 : List (S103)) (a1 : Int) (r : List (S73)) (w : World) (hr0_2 : Kd.C k73 w A0_2 l0_2.length l0_2) (hc0_2 : l0_2.length ≤ c0_2) (hr0_3 : Kd.C k103 w A0_3 l0_3.length l0_3) (hc0_3 : l0_3.length ≤ c0_3) (h : impl_facePolygon.f k a0_0 a0_1 l0_2 l0_3 a1 = some r) :
  Calls Try.prog 92 #[.agg #[.int .i64 a0_0,.int .i64 a0_1,.slice A0_2 l0_2.length c0_2,.slice A0_3 l0_3.length c0_3],.int .i64 a1] w fun e w' => ∃ v0_ : Value,e = .returned (v0_) ∧ Kd.R k73 73 w' w.heap.size (fun _ => True) v0_ r ∧ Below w.heap.size w w':=by
 have hu51:=Try.underlying51
 have HR0_2:=Aside0.mk hr0_2
 have HC0_2:=Aside0.mk hc0_2
 clear hr0_2 hc0_2
 have HR0_3:=Aside0.mk hr0_3
 have HC0_3:=Aside0.mk hc0_3
 clear hr0_3 hc0_3
 have HB:=Aside0.mk (Below.refl w.heap.size w)
 have H : (if 0 ≤ a1 then (if a1 < (l0_3.length : Int) then ((impl_ringPolygon.f k l0_2 ((rd_T103 l0_3 a1).f1)).bind fun bt372 => (some bt372.1)) else (none)) else (none)) = some r:=h
 clear h
 by_cases c3 : 0 ≤ a1
 ·rw [if_pos c3] at H
  have c3b0 : decide (0 ≤ a1) = true:=decide_eq_true c3
  clear c3
  by_cases c4 : a1 < (l0_3.length : Int)
  ·rw [if_pos c4] at H
   have c4b0 : decide (a1 < (l0_3.length : Int)) = true:=decide_eq_true c4
   clear c4
   replace H:=bE.mp H
   obtain ⟨⟨t372,t373⟩,A50,H⟩:=H
   replace H : (some t372) = some r:=H
   have A5:=Aside0.mk A50
   clear A50
   obtain rfl:=Option.some.inj H
   go_enter Try.func92,Try.ntmps92
   try go_wp2_with (first | ((with_reducible refine gate_dst (N:=2) rfl ?_);refine bx (cs:=#[.int .i64 a0_0,.int .i64 a0_1,.slice A0_2 l0_2.length c0_2,.slice A0_3 l0_3.length c0_3]) (t:=51) ?_;intro gb370 hg w6 hbox hb;have BK370:=Aside0.mk (hbox);have GW370:=zb hg;have GE370:=zb hg;replace HB:=sb hb;clear hb hbox hg))
   replace BK370:=Aside0.mk (blk_drew BK370.out)
   replace HB:=Aside0.mk (below_drew1 HB.out)
   have p371 : 0 ≤ (a1 : Int):=da
   have q371 : a1 < (l0_3.length : Int):=da
   obtain ⟨ad371,A371_1,c371_1,e371,hx371_0,hx371_1,hl371_1,hi371_1⟩:=at_T103 HR0_3.out a1 p371 q371
   have hw371_1:=hx371_1
   have hw371_0:=hx371_0
   cases e371
   replace hx371_0:=cq HB.out hx371_0
   replace hx371_1:=cq HB.out hx371_1
   have HR371_1:=Aside0.mk hi371_1
   have HC371_1:=Aside0.mk hl371_1
   clear hi371_1 hl371_1
   replace p371:=eq_true p371
   replace q371:=eq_true q371
   refine start_ (n:=14) (S:=fun w' => w'.cell? ⟨gb370,0,none⟩ = some (.int .i64 a0_0) ∧ w'.cell? ⟨gb370,1,none⟩ = some (.int .i64 a0_1) ∧ w'.cell? ⟨gb370,2,none⟩ = some (.slice A0_2 l0_2.length c0_2) ∧ w'.cell? ⟨gb370,3,none⟩ = some (.slice (some ad371) l0_3.length c0_3) ∧ w'.cell? (ad371.add ((a1).toNat * 2)) = some (.string ((rd_T103 l0_3 a1).f0)) ∧ w'.cell? ⟨(ad371.add ((a1).toNat * 2)).block,(ad371.add ((a1).toNat * 2)).off + 1,none⟩ = some (.slice A371_1 ((rd_T103 l0_3 a1).f1).length c371_1)) (ds:=[]) #[fF,fF,fF,fF,fF,fF,fF,fF,fF,fF,fF,fF,fF,fF] (by kernel_rfl) rfl rfl ⟨(blk_cell BK370.out 0).trans rfl,(blk_cell BK370.out 1).trans rfl,(blk_cell BK370.out 2).trans rfl,(blk_cell BK370.out 3).trans rfl,cq HB.out hw371_0,cq HB.out hw371_1⟩ (fun hHeld => ?_);refine with_tabW impl_facePolygon.tab1 impl_facePolygon.bits1 (fun HT_ HW_ => ?_)
   generalize w6.drew = w7 at BK370 HB HR371_1 hx371_0 hx371_1 hHeld ⊢
   refine pu 0 8 HT_ ?_
   refine pu 2 10 HT_ ?_
   refine pu 4 12 HT_ ?_
   refine tk 1 9 HT_ HW_ hHeld ?_
   refine tk 3 11 HT_ HW_ hHeld ?_
   refine pu 5 13 HT_ ?_
   refine pu 6 14 HT_ ?_
   refine tk 7 15 HT_ HW_ hHeld ?_
   refine on 8 16 HT_ (fun K hK => ?_)
   refine goes_ Try.func125 (by kernel_rfl) rfl #[.slice A0_2 l0_2.length c0_2,.slice A371_1 ((rd_T103 l0_3 a1).f1).length c371_1] (by rfl) rfl rfl (by (try simp only [mT,mC,mN]);first | done | rfl | (simp only [lD,lT];rfl)) ?_
   with_reducible refine (impl_ringPolygon.calls k _ _ l0_2 _ _ ((rd_T103 l0_3 a1).f1) t372 t373 _ ?side1 ?side2 ?side3 ?side4 A5.out).mono ?_
   (case side1 => repeat (first | exact (Kd.C_below HR0_2.out HB.out) | exact HR0_2.out | (with_reducible refine Kd.C_alloc ?_ _) | (with_reducible refine Kd.C_drewN ?_ _) | (with_reducible refine Kd.C_drew ?_)))
   (case side2 => exact HC0_2.out)
   (case side3 => repeat (first | exact (Kd.C_below HR371_1.out HB.out) | exact HR371_1.out | (with_reducible refine Kd.C_alloc ?_ _) | (with_reducible refine Kd.C_drewN ?_ _) | (with_reducible refine Kd.C_drew ?_)))
   (case side4 => exact HC371_1.out)
   rintro e w8 ⟨v374,rfl,ho0,hb⟩
   refine ⟨_,rfl,?_⟩
   have HO375:=Aside0.mk (Kd.R_lower ho0 (below_size ib))
   replace BK370:=kb BK370 hb
   replace HB:=sb hb
   (try clear hb)
   (try clear hb2)
   (try clear hk)
   (try clear hi)
   (try clear ho0)
   refine hK.out _ _ ⟨(blk_cell BK370.out 0).trans rfl,(blk_cell BK370.out 1).trans rfl,(blk_cell BK370.out 2).trans rfl,(blk_cell BK370.out 3).trans rfl,cq HB.out hw371_0,cq HB.out hw371_1⟩ (fun hHeld => ?_)
   clear hK K
   refine norm_ (a':=?_) ?_ ?_
   rotate_left
   ·show Act.put _ (some 16) _ = _
    simp only [Act.put,List.setIfInBounds_toArray,List.set_cons_zero,List.set_cons_succ,i64_w,i32_w]
    rfl
   refine pu 9 7 HT_ ?_
   refine pu 10 17 HT_ ?_
   refine pu 11 18 HT_ ?_
   refine pu 12 5 HT_ ?_
   refine pu 13 6 HT_ ?_
   refine done_ (done_of HT_.out (by kernel_rfl)) ?_
   try go_wp2
   go_ret
   exact ⟨_,by first | rfl | (simp [errW_none,errW_some] <;> rfl) | (simp [*,errW_none,errW_some] <;> rfl),rO HO375.out,ib⟩
  ·rw [if_neg c4] at H
   exact absurd H (by simp)
 ·rw [if_neg c3] at H
  exact absurd H (by simp)
def impl_FacePolygon.f (k : Nat) (a0_0 : Int) (a0_1 : Int) (l0_2 : List (S73)) (l0_3 : List (S103)) (a1 : Int) : Option ((List (S73)) × Int):=(impl_faceIndex.f k a0_0 a0_1 l0_2 l0_3 (([a1] : List Int))).bind fun t380 => (if t380 = 0 then ((impl_facePolygon.f k a0_0 a0_1 l0_2 l0_3 a1).bind fun t381 => (some (t381,0))) else (some (([] : List (S73)),t380)))
theorem impl_FacePolygon.calls (k : Nat) (a0_0 : Int) (a0_1 : Int) (A0_2 : Option Addr) (c0_2 : Nat) (l0_2 : List (S73)) (A0_3 : Option Addr) (c0_3 : Nat) (l0_3 : List (S103)) (a1 : Int) (r1 : List (S73)) (r2 : Int) (w : World) (hr0_2 : Kd.C k73 w A0_2 l0_2.length l0_2) (hc0_2 : l0_2.length ≤ c0_2) (hr0_3 : Kd.C k103 w A0_3 l0_3.length l0_3) (hc0_3 : l0_3.length ≤ c0_3) (h : impl_FacePolygon.f k a0_0 a0_1 l0_2 l0_3 a1 = some (r1,r2)) :
  Calls Try.prog 52 #[.agg #[.int .i64 a0_0,.int .i64 a0_1,.slice A0_2 l0_2.length c0_2,.slice A0_3 l0_3.length c0_3],.int .i64 a1] w fun e w' => ∃ v0_ : Value,e = .returned (.tuple #[v0_,.int .i64 r2]) ∧ Kd.R k73 73 w' w.heap.size (fun _ => True) v0_ r1 ∧ Below w.heap.size w w':=by
 have hu51:=Try.underlying51
 have HR0_2:=Aside0.mk hr0_2
 have HC0_2:=Aside0.mk hc0_2
 clear hr0_2 hc0_2
 have HR0_3:=Aside0.mk hr0_3
 have HC0_3:=Aside0.mk hc0_3
 clear hr0_3 hc0_3
 have HB:=Aside0.mk (Below.refl w.heap.size w)
 have H : ((impl_faceIndex.f k a0_0 a0_1 l0_2 l0_3 (([a1] : List Int))).bind fun t380 => (if t380 = 0 then ((impl_facePolygon.f k a0_0 a0_1 l0_2 l0_3 a1).bind fun t381 => (some (t381,0))) else (some (([] : List (S73)),t380)))) = some (r1,r2):=h
 clear h
 obtain ⟨y377,hy377⟩ : ∃ y_ : List Int,y_ = (([a1] : List Int)):=⟨_,rfl⟩
 replace H : ((impl_faceIndex.f k a0_0 a0_1 l0_2 l0_3 y377).bind fun t380 => (if t380 = 0 then ((impl_facePolygon.f k a0_0 a0_1 l0_2 l0_3 a1).bind fun t381 => (some (t381,0))) else (some (([] : List (S73)),t380)))) = some (r1,r2):=by first | (rw [hy377];with_reducible exact H) | (have H2_:=(Option.bind_some _ _).symm.trans H;rw [hy377];with_reducible exact H2_) | (have H2_:=(Option.bind_some _ _).symm.trans H;with_reducible exact H2_) | with_reducible exact H | (rw [hy377];exact H) | exact H
 have Ny377:=Aside0.mk hy377
 clear hy377
 replace H:=bE.mp H
 obtain ⟨t380,A30,H⟩:=H
 replace H : (if t380 = 0 then ((impl_facePolygon.f k a0_0 a0_1 l0_2 l0_3 a1).bind fun t381 => (some (t381,0))) else (some (([] : List (S73)),t380))) = some (r1,r2):=H
 have A3:=Aside0.mk A30
 clear A30
 by_cases c4 : t380 = 0
 ·rw [if_pos c4] at H
  have c4b0 : (t380 == 0) = true:=beq_iff_eq.mpr c4
  have c4b1 : (t380 != 0) = false:=bne_eq_false_iff_eq.mpr c4
  clear c4
  replace H:=bE.mp H
  obtain ⟨t381,A50,H⟩:=H
  replace H : (some (t381,0)) = some (r1,r2):=H
  have A5:=Aside0.mk A50
  clear A50
  simp only [Option.some.injEq,Prod.mk.injEq] at H
  obtain ⟨rfl,rfl⟩:=H
  go_enter Try.func52,Try.ntmps52
  go_wp2_with (first | ((with_reducible refine gate_dst (N:=2) rfl ?_);refine bx (cs:=#[.int .i64 a0_0,.int .i64 a0_1,.slice A0_2 l0_2.length c0_2,.slice A0_3 l0_3.length c0_3]) (t:=51) ?_;intro gb376 hg w6 hbox hb;have BK376:=Aside0.mk (hbox);have GW376:=zb hg;have GE376:=zb hg;replace HB:=sb hb;clear hb hbox hg;have hcz7_0:=ck BK376 0;have hcz7_1:=ck BK376 1;have hcz7_2:=ck BK376 2;have hcz7_3:=ck BK376 3;have hfz7_0:=blk_frozen BK376.out 0;have hfz7_1:=blk_frozen BK376.out 1;have hfz7_2:=blk_frozen BK376.out 2;have hfz7_3:=blk_frozen BK376.out 3) | ((with_reducible refine gate_dst (N:=9) rfl ?_);refine Kd.R_lit (Kd.int .i64) _ 2 ?hg (N:=9) ?hd (xs:=([a1] : List Int)) (inner:=[.int .i64 a1]) (ok:=fun _ => True) (okp:=fun _ => True) ?hr ?hp (fun _ hk => hk) trivial (Below.refl _ _) (Nat.le_refl _) (by simp) ?_;(case hd => rfl);(case hg => rfl);(case hr => first | (go_simp;done) | (go_simp;rfl));(case hp => exact (Reps.one (show Kd.M (Kd.int .i64) _ _ _ a1 [.int .i64 a1] from rfl) (Reps.none _ _)));intro v378 w8 ho9 hb hg_ hnew_;clear hg_ hnew_;(first | rw [← Ny377.out] at ho9 | (simp only [Int.reduceToNat] at ho9;rw [← Ny377.out] at ho9));have HO379:=Aside0.mk (Kd.R_lower ho9 (below_size ib));replace BK376:=kb BK376 hb;replace HB:=sb hb;clear hb ho9;obtain ⟨Ao10,co10,eo10⟩:=Kd.R_slice HO379.out;subst eo10) | ((with_reducible refine gate_callee (f:=91) rfl ?_);refine goesL_ (some 10) rfl rfl Try.func91 (by kernel_rfl) rfl #[.agg #[.int .i64 a0_0,.int .i64 a0_1,.slice A0_2 l0_2.length c0_2,.slice A0_3 l0_3.length c0_3],.slice Ao10 y377.length co10] rfl (by (try simp only [mT,mC,mN]);first | done | rfl | (simp only [lD,lT];rfl)) ?_;(with_reducible refine (impl_faceIndex.calls k a0_0 a0_1 _ _ l0_2 _ _ l0_3 _ _ y377 t380 _ ?side1 ?side2 ?side3 ?side4 ?side5 ?side6 A3.out).mono ?_);(case side1 => repeat (first | exact (Kd.C_below HR0_2.out HB.out) | exact HR0_2.out | (with_reducible refine Kd.C_alloc ?_ _) | (with_reducible refine Kd.C_drewN ?_ _) | (with_reducible refine Kd.C_drew ?_)));(case side2 => exact HC0_2.out);(case side3 => repeat (first | exact (Kd.C_below HR0_3.out HB.out) | exact HR0_3.out | (with_reducible refine Kd.C_alloc ?_ _) | (with_reducible refine Kd.C_drewN ?_ _) | (with_reducible refine Kd.C_drew ?_)));(case side4 => exact HC0_3.out);(case side5 => exact cO ((Kd.R_reads' HO379.out).2.2));(case side6 => exact (Kd.R_reads' HO379.out).2.1);rintro e w11 ⟨rfl,hb⟩;refine ⟨_,rfl,?_⟩;replace HO379:=Aside0.mk (Kd.R_below (rO HO379.out) hb);replace BK376:=kb BK376 hb;replace HB:=sb hb;(try clear hb);(try clear hb2);(try clear hk);(try clear hi);have hcz12_0:=ck BK376 0;have hcz12_1:=ck BK376 1;have hcz12_2:=ck BK376 2;have hcz12_3:=ck BK376 3;have hfz12_0:=blk_frozen BK376.out 0;have hfz12_1:=blk_frozen BK376.out 1;have hfz12_2:=blk_frozen BK376.out 2;have hfz12_3:=blk_frozen BK376.out 3) | ((with_reducible refine gate_callee (f:=92) rfl ?_);refine goesL_ (some 16) rfl rfl Try.func92 (by kernel_rfl) rfl #[.agg #[.int .i64 a0_0,.int .i64 a0_1,.slice A0_2 l0_2.length c0_2,.slice A0_3 l0_3.length c0_3],.int .i64 a1] rfl (by (try simp only [mT,mC,mN]);first | done | rfl | (simp only [lD,lT];rfl)) ?_;(with_reducible refine (impl_facePolygon.calls k a0_0 a0_1 _ _ l0_2 _ _ l0_3 a1 t381 _ ?side1 ?side2 ?side3 ?side4 A5.out).mono ?_);(case side1 => repeat (first | exact (Kd.C_below HR0_2.out HB.out) | exact HR0_2.out | (with_reducible refine Kd.C_alloc ?_ _) | (with_reducible refine Kd.C_drewN ?_ _) | (with_reducible refine Kd.C_drew ?_)));(case side2 => exact HC0_2.out);(case side3 => repeat (first | exact (Kd.C_below HR0_3.out HB.out) | exact HR0_3.out | (with_reducible refine Kd.C_alloc ?_ _) | (with_reducible refine Kd.C_drewN ?_ _) | (with_reducible refine Kd.C_drew ?_)));(case side4 => exact HC0_3.out);rintro e w13 ⟨v382,rfl,ho0,hb⟩;refine ⟨_,rfl,?_⟩;replace HO379:=Aside0.mk (Kd.R_below (rO HO379.out) hb);have HO383:=Aside0.mk (Kd.R_lower ho0 (below_size ib));replace BK376:=kb BK376 hb;replace HB:=sb hb;(try clear hb);(try clear hb2);(try clear hk);(try clear hi);(try clear ho0)))
  go_ret2
  exact ⟨_,by first | rfl | (simp [errW_none,errW_some] <;> rfl) | (simp [*,errW_none,errW_some] <;> rfl),rO HO383.out,ib⟩
 ·rw [if_neg c4] at H
  have c4b0 : (t380 == 0) = false:=beq_eq_false_iff_ne.mpr c4
  have c4b1 : (t380 != 0) = true:=bne_iff_ne.mpr c4
  simp only [Option.some.injEq,Prod.mk.injEq] at H
  obtain ⟨rfl,rfl⟩:=H
  go_enter Try.func52,Try.ntmps52
  go_wp2_with (first | ((with_reducible refine gate_dst (N:=2) rfl ?_);refine bx (cs:=#[.int .i64 a0_0,.int .i64 a0_1,.slice A0_2 l0_2.length c0_2,.slice A0_3 l0_3.length c0_3]) (t:=51) ?_;intro gb376 hg w14 hbox hb;have BK376:=Aside0.mk (hbox);have GW376:=zb hg;have GE376:=zb hg;replace HB:=sb hb;clear hb hbox hg;have hcz15_0:=ck BK376 0;have hcz15_1:=ck BK376 1;have hcz15_2:=ck BK376 2;have hcz15_3:=ck BK376 3;have hfz15_0:=blk_frozen BK376.out 0;have hfz15_1:=blk_frozen BK376.out 1;have hfz15_2:=blk_frozen BK376.out 2;have hfz15_3:=blk_frozen BK376.out 3) | ((with_reducible refine gate_dst (N:=9) rfl ?_);refine Kd.R_lit (Kd.int .i64) _ 2 ?hg (N:=9) ?hd (xs:=([a1] : List Int)) (inner:=[.int .i64 a1]) (ok:=fun _ => True) (okp:=fun _ => True) ?hr ?hp (fun _ hk => hk) trivial (Below.refl _ _) (Nat.le_refl _) (by simp) ?_;(case hd => rfl);(case hg => rfl);(case hr => first | (go_simp;done) | (go_simp;rfl));(case hp => exact (Reps.one (show Kd.M (Kd.int .i64) _ _ _ a1 [.int .i64 a1] from rfl) (Reps.none _ _)));intro v378 w16 ho17 hb hg_ hnew_;clear hg_ hnew_;(first | rw [← Ny377.out] at ho17 | (simp only [Int.reduceToNat] at ho17;rw [← Ny377.out] at ho17));have HO379:=Aside0.mk (Kd.R_lower ho17 (below_size ib));replace BK376:=kb BK376 hb;replace HB:=sb hb;clear hb ho17;obtain ⟨Ao18,co18,eo18⟩:=Kd.R_slice HO379.out;subst eo18) | ((with_reducible refine gate_callee (f:=91) rfl ?_);refine goesL_ (some 10) rfl rfl Try.func91 (by kernel_rfl) rfl #[.agg #[.int .i64 a0_0,.int .i64 a0_1,.slice A0_2 l0_2.length c0_2,.slice A0_3 l0_3.length c0_3],.slice Ao18 y377.length co18] rfl (by (try simp only [mT,mC,mN]);first | done | rfl | (simp only [lD,lT];rfl)) ?_;(with_reducible refine (impl_faceIndex.calls k a0_0 a0_1 _ _ l0_2 _ _ l0_3 _ _ y377 t380 _ ?side1 ?side2 ?side3 ?side4 ?side5 ?side6 A3.out).mono ?_);(case side1 => repeat (first | exact (Kd.C_below HR0_2.out HB.out) | exact HR0_2.out | (with_reducible refine Kd.C_alloc ?_ _) | (with_reducible refine Kd.C_drewN ?_ _) | (with_reducible refine Kd.C_drew ?_)));(case side2 => exact HC0_2.out);(case side3 => repeat (first | exact (Kd.C_below HR0_3.out HB.out) | exact HR0_3.out | (with_reducible refine Kd.C_alloc ?_ _) | (with_reducible refine Kd.C_drewN ?_ _) | (with_reducible refine Kd.C_drew ?_)));(case side4 => exact HC0_3.out);(case side5 => exact cO ((Kd.R_reads' HO379.out).2.2));(case side6 => exact (Kd.R_reads' HO379.out).2.1);rintro e w19 ⟨rfl,hb⟩;refine ⟨_,rfl,?_⟩;replace HO379:=Aside0.mk (Kd.R_below (rO HO379.out) hb);replace BK376:=kb BK376 hb;replace HB:=sb hb;(try clear hb);(try clear hb2);(try clear hk);(try clear hi)))
  go_ret2
  exact ⟨_,by first | rfl | (simp [errW_none,errW_some] <;> rfl) | (simp [*,errW_none,errW_some] <;> rfl),by first | exact Kd.R_nil _ _ _ _ _ | exact Kd.N_nil _ _ _ _ _ | exact Kd.V_nil _ _ _ _ _ | exact Kd.Q_nil _ _ _ _ _ | exact Kd.S_nil _ _ _ _ _,ib⟩
mutual
def laws_FnExactFacePolygon.j0 : Nat → Int → List (S73) → Int → List (S73) → Int → Bool → Int → Int → List (S75) → List (S126) → Int → Int → List (S73) → List (S103) → Option (Bool)
 | 0,_,_,_,_,_,_,_,_,_,_,_,_,_,_ => none
 | k + 1,x1,x6,x7,x9,x10,x44,x385000,x385001,x385002,x385003,x407000,x407001,x407002,x407003 => if x44 = true then (some false) else ((laws_toDrawing.f k x385000 x385001 x385002 x385003).bind fun bt412 => ((laws_eqDrawing.f k x407000 x407001 x407002 x407003 bt412.1 bt412.2.1 bt412.2.2.1 bt412.2.2.2).bind fun t420 => (if t420 = true then ((laws_markDrawing.f k x407000 x407001 x407002 x407003 1).bind fun t421 => (if t421 < 0 then (laws_FnExactFacePolygon.j1 k x1 x6 x7 x9 true x385000 x385001 x385002 x385003) else ((laws_eqPointS.f k x9 x6).bind fun t422 => (if t422 = true then (laws_FnExactFacePolygon.j1 k x1 x6 x7 x9 (x10 != x7) x385000 x385001 x385002 x385003) else (laws_FnExactFacePolygon.j1 k x1 x6 x7 x9 true x385000 x385001 x385002 x385003))))) else (some false))))
def laws_FnExactFacePolygon.j1 : Nat → Int → List (S73) → Int → List (S73) → Bool → Int → Int → List (S75) → List (S126) → Option (Bool)
 | 0,_,_,_,_,_,_,_,_,_ => none
 | k + 1,x1,x6,x7,x9,x65,x385000,x385001,x385002,x385003 => if x65 = true then (some false) else ((laws_markPointS.f k x9 1).bind fun bt423 => ((laws_heldPointS.f k bt423.2 1).bind fun t425 => (if t425 < 0 then (some false) else (if t425 = bt423.1 then ((laws_toDrawing.f k x385000 x385001 x385002 x385003).bind fun bt426 => ((impl_FacePolygon.f k bt426.1 bt426.2.1 bt426.2.2.1 bt426.2.2.2 x1).bind fun bt434 => ((laws_eqPointS.f k bt434.1 x6).bind fun t438 => (if t438 = true then (laws_FnExactFacePolygon.j2 k bt423.2 bt423.1 (bt434.2 != x7)) else (laws_FnExactFacePolygon.j2 k bt423.2 bt423.1 true))))) else (some false)))))
def laws_FnExactFacePolygon.j2 : Nat → List (S73) → Int → Bool → Option (Bool)
 | 0,_,_,_ => none
 | k + 1,x9,x12,x92 => if x92 = true then (some false) else ((laws_heldPointS.f k x9 1).bind fun t439 => (if t439 < 0 then (some false) else (if t439 = x12 then (some true) else (some false))))
end
def laws_FnExactFacePolygon.f (k : Nat) (a0_0 : Int) (a0_1 : Int) (l0_2 : List (S75)) (l0_3 : List (S126)) (a1 : Int) : Option (Bool):=(laws_szDrawing.f k a0_0 a0_1 l0_2 l0_3 1048576).bind fun t385 => (if t385 < 0 then (some true) else ((laws_toDrawing.f k a0_0 a0_1 l0_2 l0_3).bind fun bt386 => ((spec_FacePolygon.f k bt386.1 bt386.2.1 bt386.2.2.1 bt386.2.2.2 a1).bind fun bt394 => ((laws_toDrawing.f k a0_0 a0_1 l0_2 l0_3).bind fun bt398 => ((impl_FacePolygon.f k bt398.1 bt398.2.1 bt398.2.2.1 bt398.2.2.2 a1).bind fun bt407 => ((laws_eqPointS.f k bt407.1 bt394.1).bind fun t411 => (if t411 = true then (laws_FnExactFacePolygon.j0 k a1 bt394.1 bt394.2 bt407.1 bt407.2 (bt407.2 != bt394.2) a0_0 a0_1 l0_2 l0_3 bt398.1 bt398.2.1 bt398.2.2.1 bt398.2.2.2) else (laws_FnExactFacePolygon.j0 k a1 bt394.1 bt394.2 bt407.1 bt407.2 true a0_0 a0_1 l0_2 l0_3 bt398.1 bt398.2.1 bt398.2.2.1 bt398.2.2.2))))))))
theorem laws_FnExactFacePolygon.calls (k : Nat) (a0_0 : Int) (a0_1 : Int) (A0_2 : Option Addr) (c0_2 : Nat) (l0_2 : List (S75)) (A0_3 : Option Addr) (c0_3 : Nat) (l0_3 : List (S126)) (a1 : Int) (w : World) (hr0_2 : Kd.C k75 w A0_2 l0_2.length l0_2) (hc0_2 : l0_2.length ≤ c0_2) (hr0_3 : Kd.C k126 w A0_3 l0_3.length l0_3) (hc0_3 : l0_3.length ≤ c0_3) (h : laws_FnExactFacePolygon.f k a0_0 a0_1 l0_2 l0_3 a1 = some true) :
  Calls Try.prog 12 #[.agg #[.int .i64 a0_0,.int .i64 a0_1,.slice A0_2 l0_2.length c0_2,.slice A0_3 l0_3.length c0_3],.int .i64 a1] w fun e w' => e = .returned (.bool true) ∧ Below w.heap.size w w':=by
 have hu46:=Try.underlying46
 have hu51:=Try.underlying51
 have HR0_2:=Aside0.mk hr0_2
 have HC0_2:=Aside0.mk hc0_2
 clear hr0_2 hc0_2
 have HR0_3:=Aside0.mk hr0_3
 have HC0_3:=Aside0.mk hc0_3
 clear hr0_3 hc0_3
 have HB:=Aside0.mk (Below.refl w.heap.size w)
 have H : ((laws_szDrawing.f k a0_0 a0_1 l0_2 l0_3 1048576).bind fun t385 => (if t385 < 0 then (some true) else ((laws_toDrawing.f k a0_0 a0_1 l0_2 l0_3).bind fun bt386 => ((spec_FacePolygon.f k bt386.1 bt386.2.1 bt386.2.2.1 bt386.2.2.2 a1).bind fun bt394 => ((laws_toDrawing.f k a0_0 a0_1 l0_2 l0_3).bind fun bt398 => ((impl_FacePolygon.f k bt398.1 bt398.2.1 bt398.2.2.1 bt398.2.2.2 a1).bind fun bt407 => ((laws_eqPointS.f k bt407.1 bt394.1).bind fun t411 => (if t411 = true then (laws_FnExactFacePolygon.j0 k a1 bt394.1 bt394.2 bt407.1 bt407.2 (bt407.2 != bt394.2) a0_0 a0_1 l0_2 l0_3 bt398.1 bt398.2.1 bt398.2.2.1 bt398.2.2.2) else (laws_FnExactFacePolygon.j0 k a1 bt394.1 bt394.2 bt407.1 bt407.2 true a0_0 a0_1 l0_2 l0_3 bt398.1 bt398.2.1 bt398.2.2.1 bt398.2.2.2))))))))) = some true:=h
 clear h
 obtain ⟨t1,A10_,H⟩:=bE.mp H
 have A1:=Aside0.mk A10_
 clear A10_
 by_cases c1 : t1 < 0
 ·have c1b0 : decide (t1 < 0) = true:=decide_eq_true c1
  clear c1 H
  go_enter Try.func12,Try.ntmps12
  go_wp2_with (first | ((with_reducible refine gate_dst (N:=2) rfl ?_);refine bx (cs:=#[.int .i64 a0_0,.int .i64 a0_1,.slice A0_2 l0_2.length c0_2,.slice A0_3 l0_3.length c0_3]) (t:=46) ?_;intro gB hg w5 hbox hb;have BB:=Aside0.mk hbox;have HBn_:=sb hb;clear HB;have HB:=HBn_;clear HBn_;(try clear hb0 hb1 hb2 hb3);have hb0 : w5.cell? ⟨gB,0,none⟩ = some (.int .i64 a0_0):=(blk_cell BB.out 0).trans rfl;have hb1 : w5.cell? ⟨gB,1,none⟩ = some (.int .i64 a0_1):=(blk_cell BB.out 1).trans rfl;have hb2 : w5.cell? ⟨gB,2,none⟩ = some (.slice A0_2 l0_2.length c0_2):=(blk_cell BB.out 2).trans rfl;have hb3 : w5.cell? ⟨gB,3,none⟩ = some (.slice A0_3 l0_3.length c0_3):=(blk_cell BB.out 3).trans rfl;clear hbox hb hg) | ((with_reducible refine gate_callee (f:=36) rfl ?_);refine goesL_ _ rfl rfl Try.func36 (by kernel_rfl) rfl #[.agg #[.int .i64 a0_0,.int .i64 a0_1,.slice A0_2 l0_2.length c0_2,.slice A0_3 l0_3.length c0_3],.int .i64 1048576] rfl (by (try simp only [mT,mC,mN]);first | done | rfl | (simp only [lD,lT];rfl)) ?_;(with_reducible refine (laws_szDrawing.calls _ a0_0 a0_1 _ _ l0_2 _ _ l0_3 1048576 t1 _ (cO ((Kd.C_below HR0_2.out ib))) HC0_2.out (cO ((Kd.C_below HR0_3.out ib))) HC0_3.out A1.out).mono ?_);rintro e w5 ⟨rfl,hb⟩;refine ⟨_,rfl,?_⟩;have BBn_:=Aside0.mk (blk_below (by repeat (first | exact BB.out | refine blk_drewN ?_ _ | refine blk_drew ?_)) hb);have HBn_:=sb hb;clear HB;have HB:=HBn_;clear HBn_;clear BB;have BB:=BBn_;clear BBn_;clear A1;(try clear hb0 hb1 hb2 hb3);have hb0 : w5.cell? ⟨gB,0,none⟩ = some (.int .i64 a0_0):=(blk_cell BB.out 0).trans rfl;have hb1 : w5.cell? ⟨gB,1,none⟩ = some (.int .i64 a0_1):=(blk_cell BB.out 1).trans rfl;have hb2 : w5.cell? ⟨gB,2,none⟩ = some (.slice A0_2 l0_2.length c0_2):=(blk_cell BB.out 2).trans rfl;have hb3 : w5.cell? ⟨gB,3,none⟩ = some (.slice A0_3 l0_3.length c0_3):=(blk_cell BB.out 3).trans rfl;clear hb))
  go_ret
  exact ⟨(by first | rfl | (simp;done) | (simp [*];done)),ib⟩
 ·replace H:=(if_neg c1).symm.trans H
  have c1b0 : decide (t1 < 0) = false:=decide_eq_false c1
  clear c1
  obtain ⟨⟨d0,d1,d2,d3⟩,A2_,H⟩:=bE.mp H
  obtain ⟨⟨s0,s1⟩,A3_,H⟩:=bE.mp H
  obtain ⟨⟨x0,x1,x2,x3⟩,A5_,H⟩:=bE.mp H
  obtain ⟨⟨g0,g1⟩,A6_,H⟩:=bE.mp H
  obtain ⟨t8,A8_,H⟩:=bE.mp H
  dsimp only at H A2_ A3_ A5_ A6_ A8_
  cases t8 with
  | false =>
   replace H:=(if_neg (show ¬ (false = true) by decide)).symm.trans H
   cases k <;> simp [laws_FnExactFacePolygon.j0] at H
  | true =>
  replace H:=(if_pos rfl).symm.trans H
  cases e1 : (g1 != s1) with
  | true =>
   rw [e1] at H
   cases k <;> simp [laws_FnExactFacePolygon.j0] at H
  | false =>
  rw [e1] at H
  cases k with
  | zero => simp [laws_FnExactFacePolygon.j0] at H
  | succ k1 =>
  simp only [laws_FnExactFacePolygon.j0,Bool.false_eq_true,if_false] at H
  obtain ⟨⟨q0,q1,q2,q3⟩,A9_,H⟩:=bE.mp H
  obtain ⟨t10,A10_,H⟩:=bE.mp H
  dsimp only at H A9_ A10_
  cases t10 with
  | false => exact absurd H (by simp)
  | true =>
  replace H:=(if_pos rfl).symm.trans H
  obtain ⟨t11,A11_,H⟩:=bE.mp H
  by_cases c2 : t11 < 0
  ·replace H:=(if_pos c2).symm.trans H
   cases k1 <;> simp [laws_FnExactFacePolygon.j1] at H
  replace H:=(if_neg c2).symm.trans H
  have c2b0 : decide (t11 < 0) = false:=decide_eq_false c2
  clear c2
  obtain ⟨t13,A13_,H⟩:=bE.mp H
  cases t13 with
  | false =>
   replace H:=(if_neg (show ¬ (false = true) by decide)).symm.trans H
   cases k1 <;> simp [laws_FnExactFacePolygon.j1] at H
  | true =>
  replace H:=(if_pos rfl).symm.trans H
  rw [e1] at H
  cases k1 with
  | zero => simp [laws_FnExactFacePolygon.j1] at H
  | succ k2 =>
  simp only [laws_FnExactFacePolygon.j1,Bool.false_eq_true,if_false] at H
  obtain ⟨⟨t14,y2⟩,A14_,H⟩:=bE.mp H
  obtain ⟨t16,A16_,H⟩:=bE.mp H
  dsimp only at H A14_ A16_
  by_cases c3 : t16 < 0
  ·exact absurd ((if_pos c3).symm.trans H) (by simp)
  replace H:=(if_neg c3).symm.trans H
  by_cases c4 : t16 = t14
  case neg => exact absurd ((if_neg c4).symm.trans H) (by simp)
  replace H:=(if_pos c4).symm.trans H
  subst c4
  have c3b0 : decide (t16 < 0) = false:=decide_eq_false c3
  clear c3
  obtain ⟨⟨z0,z1,z2,z3⟩,A17_,H⟩:=bE.mp H
  obtain ⟨⟨u0,u1⟩,A18_,H⟩:=bE.mp H
  obtain ⟨t20,A20_,H⟩:=bE.mp H
  dsimp only at H A17_ A18_ A20_
  cases t20 with
  | false =>
   replace H:=(if_neg (show ¬ (false = true) by decide)).symm.trans H
   cases k2 <;> simp [laws_FnExactFacePolygon.j2] at H
  | true =>
  replace H:=(if_pos rfl).symm.trans H
  cases e2 : (u1 != s1) with
  | true =>
   rw [e2] at H
   cases k2 <;> simp [laws_FnExactFacePolygon.j2] at H
  | false =>
  rw [e2] at H
  cases k2 with
  | zero => simp [laws_FnExactFacePolygon.j2] at H
  | succ k3 =>
  simp only [laws_FnExactFacePolygon.j2,Bool.false_eq_true,if_false] at H
  obtain ⟨t21,A21_,H⟩:=bE.mp H
  by_cases c5 : t21 < 0
  ·exact absurd ((if_pos c5).symm.trans H) (by simp)
  replace H:=(if_neg c5).symm.trans H
  by_cases c6 : t21 = t16
  case neg => exact absurd ((if_neg c6).symm.trans H) (by simp)
  subst c6
  clear H c5
  have A2:=Aside0.mk A2_;have A3:=Aside0.mk A3_;have A5:=Aside0.mk A5_;have A6:=Aside0.mk A6_;have A8:=Aside0.mk A8_;have A9:=Aside0.mk A9_;have A10:=Aside0.mk A10_;have A11:=Aside0.mk A11_;have A13:=Aside0.mk A13_;have A14:=Aside0.mk A14_;have A16:=Aside0.mk A16_;have A17:=Aside0.mk A17_;have A18:=Aside0.mk A18_;have A20:=Aside0.mk A20_;have A21:=Aside0.mk A21_
  clear A2_ A3_ A5_ A6_ A8_ A9_ A10_ A11_ A13_ A14_ A16_ A17_ A18_ A20_ A21_
  go_enter Try.func12,Try.ntmps12
  go_wp2_with (first | ((with_reducible refine gate_dst (N:=2) rfl ?_);refine bx (cs:=#[.int .i64 a0_0,.int .i64 a0_1,.slice A0_2 l0_2.length c0_2,.slice A0_3 l0_3.length c0_3]) (t:=46) ?_;intro gB hg w5 hbox hb;have BB:=Aside0.mk hbox;have HBn_:=sb hb;clear HB;have HB:=HBn_;clear HBn_;(try clear hb0 hb1 hb2 hb3);have hb0 : w5.cell? ⟨gB,0,none⟩ = some (.int .i64 a0_0):=(blk_cell BB.out 0).trans rfl;have hb1 : w5.cell? ⟨gB,1,none⟩ = some (.int .i64 a0_1):=(blk_cell BB.out 1).trans rfl;have hb2 : w5.cell? ⟨gB,2,none⟩ = some (.slice A0_2 l0_2.length c0_2):=(blk_cell BB.out 2).trans rfl;have hb3 : w5.cell? ⟨gB,3,none⟩ = some (.slice A0_3 l0_3.length c0_3):=(blk_cell BB.out 3).trans rfl;clear hbox hb hg) | ((with_reducible refine gate_callee (f:=36) rfl ?_);refine goesL_ _ rfl rfl Try.func36 (by kernel_rfl) rfl #[.agg #[.int .i64 a0_0,.int .i64 a0_1,.slice A0_2 l0_2.length c0_2,.slice A0_3 l0_3.length c0_3],.int .i64 1048576] rfl (by (try simp only [mT,mC,mN]);first | done | rfl | (simp only [lD,lT];rfl)) ?_;(with_reducible refine (laws_szDrawing.calls _ a0_0 a0_1 _ _ l0_2 _ _ l0_3 1048576 t1 _ (cO ((Kd.C_below HR0_2.out ib))) HC0_2.out (cO ((Kd.C_below HR0_3.out ib))) HC0_3.out A1.out).mono ?_);rintro e w5 ⟨rfl,hb⟩;refine ⟨_,rfl,?_⟩;have BBn_:=Aside0.mk (blk_below (by repeat (first | exact BB.out | refine blk_drewN ?_ _ | refine blk_drew ?_)) hb);have HBn_:=sb hb;clear HB;have HB:=HBn_;clear HBn_;clear BB;have BB:=BBn_;clear BBn_;clear A1;(try clear hb0 hb1 hb2 hb3);have hb0 : w5.cell? ⟨gB,0,none⟩ = some (.int .i64 a0_0):=(blk_cell BB.out 0).trans rfl;have hb1 : w5.cell? ⟨gB,1,none⟩ = some (.int .i64 a0_1):=(blk_cell BB.out 1).trans rfl;have hb2 : w5.cell? ⟨gB,2,none⟩ = some (.slice A0_2 l0_2.length c0_2):=(blk_cell BB.out 2).trans rfl;have hb3 : w5.cell? ⟨gB,3,none⟩ = some (.slice A0_3 l0_3.length c0_3):=(blk_cell BB.out 3).trans rfl;clear hb) | ((with_reducible refine gate_callee (f:=38) rfl ?_);refine goesL_ _ rfl rfl Try.func38 (by kernel_rfl) rfl #[.agg #[.int .i64 a0_0,.int .i64 a0_1,.slice A0_2 l0_2.length c0_2,.slice A0_3 l0_3.length c0_3]] rfl (by (try simp only [mT,mC,mN]);first | done | rfl | (simp only [lD,lT];rfl)) ?_;(with_reducible refine (laws_toDrawing.calls _ a0_0 a0_1 _ _ l0_2 _ _ l0_3 d0 d1 d2 d3 _ (cO ((Kd.C_below HR0_2.out ib))) HC0_2.out (cO ((Kd.C_below HR0_3.out ib))) HC0_3.out A2.out).mono ?_);rintro e w5 ⟨vp_,vf_,rfl,ho,hs,hb⟩;refine ⟨_,rfl,?_⟩;have BBn_:=Aside0.mk (blk_below (by repeat (first | exact BB.out | refine blk_drewN ?_ _ | refine blk_drew ?_)) hb);have XT:=Aside0.mk ho;have XF:=Aside0.mk hs;have HBn_:=sb hb;clear HB;have HB:=HBn_;clear HBn_;clear BB;have BB:=BBn_;clear BBn_;clear A2;obtain ⟨AT,cT,eT_⟩:=Kd.R_slice XT.out;subst eT_;obtain ⟨AF,cF,eF_⟩:=Kd.S_slice XF.out;subst eF_;(try clear hb0 hb1 hb2 hb3);have hb0 : w5.cell? ⟨gB,0,none⟩ = some (.int .i64 a0_0):=(blk_cell BB.out 0).trans rfl;have hb1 : w5.cell? ⟨gB,1,none⟩ = some (.int .i64 a0_1):=(blk_cell BB.out 1).trans rfl;have hb2 : w5.cell? ⟨gB,2,none⟩ = some (.slice A0_2 l0_2.length c0_2):=(blk_cell BB.out 2).trans rfl;have hb3 : w5.cell? ⟨gB,3,none⟩ = some (.slice A0_3 l0_3.length c0_3):=(blk_cell BB.out 3).trans rfl;clear hb) | ((with_reducible refine gate_callee (f:=51) rfl ?_);refine goesL_ _ rfl rfl Try.func51 (by kernel_rfl) rfl #[.agg #[.int .i64 d0,.int .i64 d1,.slice AT d2.length cT,.slice AF d3.length cF],.int .i64 a1] rfl (by (try simp only [mT,mC,mN]);first | done | rfl | (simp only [lD,lT];rfl)) ?_;(with_reducible refine (spec_FacePolygon.calls _ d0 d1 _ _ d2 _ _ d3 a1 s0 s1 _ (cO ((Kd.R_reads' XT.out).2.2)) (Kd.R_reads' XT.out).2.1 (cO ((Kd.S_reads' XF.out).2.2)) (Kd.S_reads' XF.out).2.1 A3.out).mono ?_);rintro e w5 ⟨v0_,rfl,ho,hb⟩;refine ⟨_,rfl,?_⟩;have BBn_:=Aside0.mk (blk_below (by repeat (first | exact BB.out | refine blk_drewN ?_ _ | refine blk_drew ?_)) hb);obtain ⟨N1,hN1⟩ : ∃ n_,n_ = w5.heap.size:=⟨_,rfl⟩;have G0:=Aside0.mk (Kd.R_mono (ok':=fun k_ => k_ < N1) (Kd.R_lower (Kd.R_bound ho) (show Below w.heap.size w _ from ib).size) (fun k_ hk_ => by rw [hN1];exact hk_.2.2.1));have B1:=Aside0.mk (Nat.le_of_eq hN1);have HBn_:=sb hb;clear HB;have HB:=HBn_;clear HBn_;clear BB;have BB:=BBn_;clear BBn_;have GBN:=Aside0.mk (show gB < N1 by rw [hN1];exact blk_lt BB.out);clear A3 XT XF hN1;obtain ⟨AG,cG,eG_⟩:=Kd.R_slice G0.out;subst eG_;(try clear hb0 hb1 hb2 hb3);have hb0 : w5.cell? ⟨gB,0,none⟩ = some (.int .i64 a0_0):=(blk_cell BB.out 0).trans rfl;have hb1 : w5.cell? ⟨gB,1,none⟩ = some (.int .i64 a0_1):=(blk_cell BB.out 1).trans rfl;have hb2 : w5.cell? ⟨gB,2,none⟩ = some (.slice A0_2 l0_2.length c0_2):=(blk_cell BB.out 2).trans rfl;have hb3 : w5.cell? ⟨gB,3,none⟩ = some (.slice A0_3 l0_3.length c0_3):=(blk_cell BB.out 3).trans rfl;clear hb) | ((with_reducible refine gate_callee (f:=38) rfl ?_);refine goesL_ _ rfl rfl Try.func38 (by kernel_rfl) rfl #[.agg #[.int .i64 a0_0,.int .i64 a0_1,.slice A0_2 l0_2.length c0_2,.slice A0_3 l0_3.length c0_3]] rfl (by (try simp only [mT,mC,mN]);first | done | rfl | (simp only [lD,lT];rfl)) ?_;(with_reducible refine (laws_toDrawing.calls _ a0_0 a0_1 _ _ l0_2 _ _ l0_3 x0 x1 x2 x3 _ (cO ((Kd.C_below HR0_2.out ib))) HC0_2.out (cO ((Kd.C_below HR0_3.out ib))) HC0_3.out A5.out).mono ?_);rintro e w5 ⟨vp_,vf_,rfl,ho,hs,hb⟩;refine ⟨_,rfl,?_⟩;have BBn_:=Aside0.mk (blk_below (by repeat (first | exact BB.out | refine blk_drewN ?_ _ | refine blk_drew ?_)) hb);have G0n_:=Aside0.mk (Kd.R_below (rO G0.out) hb);obtain ⟨N2,hN2⟩ : ∃ n_,n_ = w5.heap.size:=⟨_,rfl⟩;have XP:=Aside0.mk (Kd.R_mono (ok':=fun k_ => N1 ≤ k_ ∧ k_ < N2) (Kd.R_lower (Kd.R_bound ho) (show Below w.heap.size w _ from ib).size) (fun k_ hk_ => ⟨Nat.le_trans B1.out hk_.2.1,by rw [hN2];exact hk_.2.2.1⟩));have XQ:=Aside0.mk (Kd.S_mono (ok':=fun k_ => N1 ≤ k_ ∧ k_ < N2) (Kd.S_lower (Kd.S_bound hs) (show Below w.heap.size w _ from ib).size) (fun k_ hk_ => ⟨Nat.le_trans B1.out hk_.2.1,by rw [hN2];exact hk_.2.2.1⟩));have B2:=Aside0.mk (Nat.le_of_eq hN2);have B12:=Aside0.mk (show N1 ≤ N2 by rw [hN2];exact Nat.le_trans B1.out hb.size);have HBn_:=sb hb;clear HB;have HB:=HBn_;clear HBn_;clear BB;have BB:=BBn_;clear BBn_;clear G0;have G0:=G0n_;clear G0n_;clear A5 hN2;obtain ⟨AP,cP,eP_⟩:=Kd.R_slice XP.out;subst eP_;obtain ⟨AQ,cQ,eQ_⟩:=Kd.S_slice XQ.out;subst eQ_;(try clear hb0 hb1 hb2 hb3);have hb0 : w5.cell? ⟨gB,0,none⟩ = some (.int .i64 a0_0):=(blk_cell BB.out 0).trans rfl;have hb1 : w5.cell? ⟨gB,1,none⟩ = some (.int .i64 a0_1):=(blk_cell BB.out 1).trans rfl;have hb2 : w5.cell? ⟨gB,2,none⟩ = some (.slice A0_2 l0_2.length c0_2):=(blk_cell BB.out 2).trans rfl;have hb3 : w5.cell? ⟨gB,3,none⟩ = some (.slice A0_3 l0_3.length c0_3):=(blk_cell BB.out 3).trans rfl;clear hb) | ((with_reducible refine gate_dst (N:=8) rfl ?_);refine bx (cs:=#[.int .i64 0,.int .i64 0,.slice none 0 0,.slice none 0 0]) (t:=51) ?_;intro gX hg w5 hbox hb;have BX:=Aside0.mk hbox;have NX:=Aside0.mk (show N2 ≤ gX by rw [hg];exact B2.out);have GEX:=Aside0.mk (show w.heap.size ≤ gX by rw [hg];exact HB.out.size);have BBn_:=Aside0.mk (blk_below (by repeat (first | exact BB.out | refine blk_drewN ?_ _ | refine blk_drew ?_)) hb);have G0n_:=Aside0.mk (Kd.R_below (rO G0.out) hb);have XPn_:=Aside0.mk (Kd.R_below (rO XP.out) hb);have XQn_:=Aside0.mk (Kd.S_below (sO XQ.out) hb);have HBn_:=sb hb;clear HB;have HB:=HBn_;clear HBn_;clear BB;have BB:=BBn_;clear BBn_;clear G0;have G0:=G0n_;clear G0n_;clear XP;have XP:=XPn_;clear XPn_;clear XQ;have XQ:=XQn_;clear XQn_;(try clear hb0 hb1 hb2 hb3);have hb0 : w5.cell? ⟨gB,0,none⟩ = some (.int .i64 a0_0):=(blk_cell BB.out 0).trans rfl;have hb1 : w5.cell? ⟨gB,1,none⟩ = some (.int .i64 a0_1):=(blk_cell BB.out 1).trans rfl;have hb2 : w5.cell? ⟨gB,2,none⟩ = some (.slice A0_2 l0_2.length c0_2):=(blk_cell BB.out 2).trans rfl;have hb3 : w5.cell? ⟨gB,3,none⟩ = some (.slice A0_3 l0_3.length c0_3):=(blk_cell BB.out 3).trans rfl;clear hb;clear hbox hg;have hz0:=(blk_cell BX.out 0).trans rfl;have hz1:=(blk_cell BX.out 1).trans rfl;have hz2:=(blk_cell BX.out 2).trans rfl;have hz3:=(blk_cell BX.out 3).trans rfl;have hf0:=blk_frozen BX.out 0;have hf1:=blk_frozen BX.out 1;have hf2:=blk_frozen BX.out 2;have hf3:=blk_frozen BX.out 3) | ((with_reducible refine gate_callee (f:=52) rfl ?_);obtain ⟨w9,hw⟩ : ∃ w_,w_ = ((((w5.setCell ⟨gX,0,none⟩ (.int .i64 x0)).setCell ⟨gX,1,none⟩ (.int .i64 x1)).setCell ⟨gX,2,none⟩ (.slice AP x2.length cP)).setCell ⟨gX,3,none⟩ (.slice AQ x3.length cQ)):=⟨_,rfl⟩;rw [← hw];have fa_ : ∀ k_,k_ ≠ gX → w9.heap[k_]? = w5.heap[k_]?:=fun k_ hk_ => (by rw [hw];exact (Below.heap_setCell _ _ _ k_ hk_).trans ((Below.heap_setCell _ _ _ k_ hk_).trans ((Below.heap_setCell _ _ _ k_ hk_).trans (Below.heap_setCell _ _ _ k_ hk_))));have G0n_:=Aside0.mk (Kd.R_step G0.out (fun k_ h_ _ => fa_ k_ (Nat.ne_of_lt (Nat.lt_of_lt_of_le h_ (Nat.le_trans B12.out NX.out)))));have XPn_:=Aside0.mk (Kd.R_step XP.out (fun k_ h_ _ => fa_ k_ (Nat.ne_of_lt (Nat.lt_of_lt_of_le h_.2 NX.out))));have XQn_:=Aside0.mk (Kd.S_step XQ.out (fun k_ h_ _ => fa_ k_ (Nat.ne_of_lt (Nat.lt_of_lt_of_le h_.2 NX.out))));have BBn_:=Aside0.mk ((fa_ gB (Nat.ne_of_lt (Nat.lt_of_lt_of_le GBN.out (Nat.le_trans B12.out NX.out)))).trans BB.out);have BXn_:=Aside0.mk (show w9.heap[gX]? = some (.cells #[.int .i64 x0,.int .i64 x1,.slice AP x2.length cP,.slice AQ x3.length cQ] 51 (0,0)) by rw [hw];simpa using blk_set (blk_set (blk_set (blk_set BX.out 0 (.int .i64 x0)) 1 (.int .i64 x1)) 2 (.slice AP x2.length cP)) 3 (.slice AQ x3.length cQ));have HBn_:=Aside0.mk (show Below w.heap.size w w9 by rw [hw];exact below_set (below_set (below_set (below_set HB.out GEX.out) GEX.out) GEX.out) GEX.out);clear hz0 hz1 hz2 hz3 hf0 hf1 hf2 hf3 fa_ hw HB;have HB:=HBn_;clear HBn_;clear G0;have G0:=G0n_;clear G0n_;clear XP;have XP:=XPn_;clear XPn_;clear XQ;have XQ:=XQn_;clear XQn_;clear BB;have BB:=BBn_;clear BBn_;clear BX;have BX:=BXn_;clear BXn_;refine goesL_ _ rfl rfl Try.func52 (by kernel_rfl) rfl #[.agg #[.int .i64 x0,.int .i64 x1,.slice AP x2.length cP,.slice AQ x3.length cQ],.int .i64 a1] rfl (by (try simp only [mT,mC,mN]);first | done | rfl | (simp only [lD,lT];rfl)) ?_;(with_reducible refine (impl_FacePolygon.calls _ x0 x1 _ _ x2 _ _ x3 a1 g0 g1 _ (cO ((Kd.R_reads' XP.out).2.2)) (Kd.R_reads' XP.out).2.1 (cO ((Kd.S_reads' XQ.out).2.2)) (Kd.S_reads' XQ.out).2.1 A6.out).mono ?_);rintro e w5 ⟨v0_,rfl,ho,hb⟩;refine ⟨_,rfl,?_⟩;have BBn_:=Aside0.mk (blk_below (by repeat (first | exact BB.out | refine blk_drewN ?_ _ | refine blk_drew ?_)) hb);have G0n_:=Aside0.mk (Kd.R_below (rO G0.out) hb);have XPn_:=Aside0.mk (Kd.R_below (rO XP.out) hb);have XQn_:=Aside0.mk (Kd.S_below (sO XQ.out) hb);have BXn_:=Aside0.mk (blk_below (by repeat (first | exact BX.out | refine blk_drewN ?_ _ | refine blk_drew ?_)) hb);have G1:=Aside0.mk (Kd.R_mono (ok':=fun k_ => N2 ≤ k_) (Kd.R_lower (Kd.R_bound ho) (show Below w.heap.size w _ from ib).size) (fun k_ hk_ => Nat.le_trans NX.out (Nat.le_trans (Nat.le_of_lt (blk_lt BX.out)) hk_.2.1)));have HBn_:=sb hb;clear HB;have HB:=HBn_;clear HBn_;clear BB;have BB:=BBn_;clear BBn_;clear G0;have G0:=G0n_;clear G0n_;clear XP;have XP:=XPn_;clear XPn_;clear XQ;have XQ:=XQn_;clear XQn_;clear BX;have BX:=BXn_;clear BXn_;clear A6;obtain ⟨AI,cI,eI_⟩:=Kd.R_slice G1.out;subst eI_;(try clear hb0 hb1 hb2 hb3);have hb0 : w5.cell? ⟨gB,0,none⟩ = some (.int .i64 a0_0):=(blk_cell BB.out 0).trans rfl;have hb1 : w5.cell? ⟨gB,1,none⟩ = some (.int .i64 a0_1):=(blk_cell BB.out 1).trans rfl;have hb2 : w5.cell? ⟨gB,2,none⟩ = some (.slice A0_2 l0_2.length c0_2):=(blk_cell BB.out 2).trans rfl;have hb3 : w5.cell? ⟨gB,3,none⟩ = some (.slice A0_3 l0_3.length c0_3):=(blk_cell BB.out 3).trans rfl;(try clear hx0 hx1 hx2 hx3);have hx0 : w5.cell? ⟨gX,0,none⟩ = some (.int .i64 x0):=(blk_cell BX.out 0).trans rfl;have hx1 : w5.cell? ⟨gX,1,none⟩ = some (.int .i64 x1):=(blk_cell BX.out 1).trans rfl;have hx2 : w5.cell? ⟨gX,2,none⟩ = some (.slice AP x2.length cP):=(blk_cell BX.out 2).trans rfl;have hx3 : w5.cell? ⟨gX,3,none⟩ = some (.slice AQ x3.length cQ):=(blk_cell BX.out 3).trans rfl;clear hb) | ((with_reducible refine gate_callee (f:=19) rfl ?_);refine goesL_ _ rfl rfl Try.func19 (by kernel_rfl) rfl #[.slice AI g0.length cI,.slice AG s0.length cG] rfl (by (try simp only [mT,mC,mN]);first | done | rfl | (simp only [lD,lT];rfl)) ?_;(with_reducible refine (laws_eqPointS.calls _ _ _ g0 _ _ s0 true _ (cO ((Kd.R_reads' G1.out).2.2)) (Kd.R_reads' G1.out).2.1 (cO ((Kd.R_reads' G0.out).2.2)) (Kd.R_reads' G0.out).2.1 A8.out).mono ?_);rintro e w5 ⟨rfl,hb⟩;refine ⟨_,rfl,?_⟩;have BBn_:=Aside0.mk (blk_below (by repeat (first | exact BB.out | refine blk_drewN ?_ _ | refine blk_drew ?_)) hb);have G0n_:=Aside0.mk (Kd.R_below (rO G0.out) hb);have XPn_:=Aside0.mk (Kd.R_below (rO XP.out) hb);have XQn_:=Aside0.mk (Kd.S_below (sO XQ.out) hb);have BXn_:=Aside0.mk (blk_below (by repeat (first | exact BX.out | refine blk_drewN ?_ _ | refine blk_drew ?_)) hb);have G1n_:=Aside0.mk (Kd.R_below (rO G1.out) hb);have HBn_:=sb hb;clear HB;have HB:=HBn_;clear HBn_;clear BB;have BB:=BBn_;clear BBn_;clear G0;have G0:=G0n_;clear G0n_;clear XP;have XP:=XPn_;clear XPn_;clear XQ;have XQ:=XQn_;clear XQn_;clear BX;have BX:=BXn_;clear BXn_;clear G1;have G1:=G1n_;clear G1n_;clear A8;(try clear hb0 hb1 hb2 hb3);have hb0 : w5.cell? ⟨gB,0,none⟩ = some (.int .i64 a0_0):=(blk_cell BB.out 0).trans rfl;have hb1 : w5.cell? ⟨gB,1,none⟩ = some (.int .i64 a0_1):=(blk_cell BB.out 1).trans rfl;have hb2 : w5.cell? ⟨gB,2,none⟩ = some (.slice A0_2 l0_2.length c0_2):=(blk_cell BB.out 2).trans rfl;have hb3 : w5.cell? ⟨gB,3,none⟩ = some (.slice A0_3 l0_3.length c0_3):=(blk_cell BB.out 3).trans rfl;(try clear hx0 hx1 hx2 hx3);have hx0 : w5.cell? ⟨gX,0,none⟩ = some (.int .i64 x0):=(blk_cell BX.out 0).trans rfl;have hx1 : w5.cell? ⟨gX,1,none⟩ = some (.int .i64 x1):=(blk_cell BX.out 1).trans rfl;have hx2 : w5.cell? ⟨gX,2,none⟩ = some (.slice AP x2.length cP):=(blk_cell BX.out 2).trans rfl;have hx3 : w5.cell? ⟨gX,3,none⟩ = some (.slice AQ x3.length cQ):=(blk_cell BX.out 3).trans rfl;clear hb))
  have G0n_:=Aside0.mk (Kd.R_drew G0.out)
  have G1n_:=Aside0.mk (Kd.R_drew G1.out)
  have XPn_:=Aside0.mk (Kd.R_drew XP.out)
  have XQn_:=Aside0.mk (Kd.S_drew XQ.out)
  have BBn_:=Aside0.mk (blk_drew BB.out)
  have BXn_:=Aside0.mk (blk_drew BX.out)
  have HBn_:=Aside0.mk (below_drew1 HB.out)
  clear HB hb0 hb1 hb2 hb3 hx0 hx1 hx2 hx3
  have HB:=HBn_
  clear HBn_
  clear G0
  have G0:=G0n_
  clear G0n_
  clear G1
  have G1:=G1n_
  clear G1n_
  clear XP
  have XP:=XPn_
  clear XPn_
  clear XQ
  have XQ:=XQn_
  clear XQn_
  clear BB
  have BB:=BBn_
  clear BBn_
  clear BX
  have BX:=BXn_
  clear BXn_
  refine start_ (n:=5) (S:=fun w' => w'.cell? ⟨gX,0,none⟩ = some (.int .i64 x0) ∧ w'.cell? ⟨gX,1,none⟩ = some (.int .i64 x1) ∧ w'.cell? ⟨gX,2,none⟩ = some (.slice AP x2.length cP) ∧ w'.cell? ⟨gX,3,none⟩ = some (.slice AQ x3.length cQ) ∧ w'.cell? ⟨gB,0,none⟩ = some (.int .i64 a0_0) ∧ w'.cell? ⟨gB,1,none⟩ = some (.int .i64 a0_1) ∧ w'.cell? ⟨gB,2,none⟩ = some (.slice A0_2 l0_2.length c0_2) ∧ w'.cell? ⟨gB,3,none⟩ = some (.slice A0_3 l0_3.length c0_3)) (ds:=[]) #[fF,fF,fF,fF,fF] (by kernel_rfl) rfl rfl ⟨(blk_cell BX.out 0).trans rfl,(blk_cell BX.out 1).trans rfl,(blk_cell BX.out 2).trans rfl,(blk_cell BX.out 3).trans rfl,(blk_cell BB.out 0).trans rfl,(blk_cell BB.out 1).trans rfl,(blk_cell BB.out 2).trans rfl,(blk_cell BB.out 3).trans rfl⟩ (fun hHeld => ?_)
  refine take_ (i:=0) (N:=some 45) (v:=?_) (a':=?_) #[tT,fF,fF,fF,fF] rfl rfl (by kernel_rfl) (fun _ _ _ h => h) (Or.inl ⟨by rfl,?_⟩) hHeld ?_ ?_
  rotate_left
  ·rintro w' ⟨s0_,s1_,s2_,s3_,s4_,s5_,s6_,s7_⟩
   go_simp
   with_reducible rfl
  rotate_left
  ·exact pa
  refine take_ (i:=1) (N:=some 46) (v:=?_) (a':=?_) #[tT,tT,fF,fF,fF] rfl rfl (by kernel_rfl) (fun _ _ _ h => h) (Or.inl ⟨by rfl,?_⟩) hHeld ?_ ?_
  rotate_left
  ·rintro w' ⟨s0_,s1_,s2_,s3_,s4_,s5_,s6_,s7_⟩
   go_simp
   with_reducible rfl
  rotate_left
  ·exact pa
  refine one_ (i:=2) (N:=some 47) #[tT,tT,tT,fF,fF] rfl rfl (by kernel_rfl) (by decide) (fun K hK => ?_)
  refine goes_ Try.func38 (by kernel_rfl) rfl #[.agg #[.int .i64 a0_0,.int .i64 a0_1,.slice A0_2 l0_2.length c0_2,.slice A0_3 l0_3.length c0_3]] (by rfl) rfl rfl (by (try simp only [mT,mC,mN]);first | done | rfl | (simp only [lD,lT];rfl)) ?_
  with_reducible refine (laws_toDrawing.calls _ a0_0 a0_1 _ _ l0_2 _ _ l0_3 q0 q1 q2 q3 _ (Kd.C_below HR0_2.out ib) HC0_2.out (Kd.C_below HR0_3.out ib) HC0_3.out A9.out).mono ?_
  rintro e w5 ⟨vp_,vf_,rfl,ho,hs,hb⟩
  refine ⟨_,rfl,?_⟩
  have BBn_:=Aside0.mk (blk_below (by repeat (first | exact BB.out | refine blk_drewN ?_ _ | refine blk_drew ?_)) hb);have G0n_:=Aside0.mk (Kd.R_below (rO G0.out) hb);have XPn_:=Aside0.mk (Kd.R_below (rO XP.out) hb);have XQn_:=Aside0.mk (Kd.S_below (sO XQ.out) hb);have BXn_:=Aside0.mk (blk_below (by repeat (first | exact BX.out | refine blk_drewN ?_ _ | refine blk_drew ?_)) hb);have G1n_:=Aside0.mk (Kd.R_below (rO G1.out) hb);have ZT:=Aside0.mk ho;have ZF:=Aside0.mk hs;have HBn_:=sb hb;clear HB;have HB:=HBn_;clear HBn_;clear BB;have BB:=BBn_;clear BBn_;clear G0;have G0:=G0n_;clear G0n_;clear XP;have XP:=XPn_;clear XPn_;clear XQ;have XQ:=XQn_;clear XQn_;clear BX;have BX:=BXn_;clear BXn_;clear G1;have G1:=G1n_;clear G1n_;clear A9;obtain ⟨AZ,cZ,eZ_⟩:=Kd.R_slice ZT.out;subst eZ_;obtain ⟨AY,cY,eY_⟩:=Kd.S_slice ZF.out;subst eY_;(try clear hb0 hb1 hb2 hb3)
  refine hK.out _ _ ⟨(blk_cell BX.out 0).trans rfl,(blk_cell BX.out 1).trans rfl,(blk_cell BX.out 2).trans rfl,(blk_cell BX.out 3).trans rfl,(blk_cell BB.out 0).trans rfl,(blk_cell BB.out 1).trans rfl,(blk_cell BB.out 2).trans rfl,(blk_cell BB.out 3).trans rfl⟩ (fun hHeld => ?_)
  clear hK K
  refine norm_ (a':=?_) ?_ ?_
  rotate_left
  ·show Act.put _ (some 47) _ = _
   simp only [Act.put,List.setIfInBounds_toArray,List.set_cons_zero,List.set_cons_succ,i64_w,i32_w]
   rfl
  refine one_ (i:=3) (N:=some 48) #[tT,tT,tT,tT,fF] rfl rfl (by kernel_rfl) (by decide) (fun K hK => ?_)
  refine goes_ Try.func40 (by kernel_rfl) rfl #[.agg #[.int .i64 x0,.int .i64 x1,.slice AP x2.length cP,.slice AQ x3.length cQ],.agg #[.int .i64 q0,.int .i64 q1,.slice AZ q2.length cZ,.slice AY q3.length cY]] (by rfl) rfl rfl (by (try simp only [mT,mC,mN]);first | done | rfl | (simp only [lD,lT];rfl)) ?_
  with_reducible refine (laws_eqDrawing.calls _ x0 x1 _ _ x2 _ _ x3 q0 q1 _ _ q2 _ _ q3 true _ (cO ((Kd.R_reads' XP.out).2.2)) (Kd.R_reads' XP.out).2.1 (cO ((Kd.S_reads' XQ.out).2.2)) (Kd.S_reads' XQ.out).2.1 (cO ((Kd.R_reads' ZT.out).2.2)) (Kd.R_reads' ZT.out).2.1 (cO ((Kd.S_reads' ZF.out).2.2)) (Kd.S_reads' ZF.out).2.1 A10.out).mono ?_
  rintro e w5 ⟨rfl,hb⟩
  refine ⟨_,rfl,?_⟩
  have BBn_:=Aside0.mk (blk_below (by repeat (first | exact BB.out | refine blk_drewN ?_ _ | refine blk_drew ?_)) hb);have G0n_:=Aside0.mk (Kd.R_below (rO G0.out) hb);have XPn_:=Aside0.mk (Kd.R_below (rO XP.out) hb);have XQn_:=Aside0.mk (Kd.S_below (sO XQ.out) hb);have BXn_:=Aside0.mk (blk_below (by repeat (first | exact BX.out | refine blk_drewN ?_ _ | refine blk_drew ?_)) hb);have G1n_:=Aside0.mk (Kd.R_below (rO G1.out) hb);have HBn_:=sb hb;clear HB;have HB:=HBn_;clear HBn_;clear BB;have BB:=BBn_;clear BBn_;clear G0;have G0:=G0n_;clear G0n_;clear XP;have XP:=XPn_;clear XPn_;clear XQ;have XQ:=XQn_;clear XQn_;clear BX;have BX:=BXn_;clear BXn_;clear G1;have G1:=G1n_;clear G1n_;clear A10 ZT ZF;(try clear hb0 hb1 hb2 hb3);have hb0 : w5.cell? ⟨gB,0,none⟩ = some (.int .i64 a0_0):=(blk_cell BB.out 0).trans rfl;have hb1 : w5.cell? ⟨gB,1,none⟩ = some (.int .i64 a0_1):=(blk_cell BB.out 1).trans rfl;have hb2 : w5.cell? ⟨gB,2,none⟩ = some (.slice A0_2 l0_2.length c0_2):=(blk_cell BB.out 2).trans rfl;have hb3 : w5.cell? ⟨gB,3,none⟩ = some (.slice A0_3 l0_3.length c0_3):=(blk_cell BB.out 3).trans rfl;(try clear hx0 hx1 hx2 hx3);have hx0 : w5.cell? ⟨gX,0,none⟩ = some (.int .i64 x0):=(blk_cell BX.out 0).trans rfl;have hx1 : w5.cell? ⟨gX,1,none⟩ = some (.int .i64 x1):=(blk_cell BX.out 1).trans rfl;have hx2 : w5.cell? ⟨gX,2,none⟩ = some (.slice AP x2.length cP):=(blk_cell BX.out 2).trans rfl;have hx3 : w5.cell? ⟨gX,3,none⟩ = some (.slice AQ x3.length cQ):=(blk_cell BX.out 3).trans rfl;clear hb
  refine hK.out _ _ ⟨(blk_cell BX.out 0).trans rfl,(blk_cell BX.out 1).trans rfl,(blk_cell BX.out 2).trans rfl,(blk_cell BX.out 3).trans rfl,(blk_cell BB.out 0).trans rfl,(blk_cell BB.out 1).trans rfl,(blk_cell BB.out 2).trans rfl,(blk_cell BB.out 3).trans rfl⟩ (fun hHeld => ?_)
  clear hK K
  refine norm_ (a':=?_) ?_ ?_
  rotate_left
  ·show Act.put _ (some 48) _ = _
   simp only [Act.put,List.setIfInBounds_toArray,List.set_cons_zero,List.set_cons_succ,i64_w,i32_w]
   rfl
  refine pure_ (i:=4) (N:=some 49) (v:=?_) (a':=?_) #[tT,tT,tT,tT,tT] rfl rfl (by kernel_rfl) (fun _ _ _ h => h) (Or.inl ⟨by rfl,?_⟩) ?_ ?_
  rotate_left
  ·intro w'
   go_simp
   with_reducible rfl
  rotate_left
  ·exact pa
  refine done_ (by kernel_rfl) ?_
  go_wp2_with (first | ((with_reducible refine gate_callee (f:=41) rfl ?_);refine goesL_ _ rfl rfl Try.func41 (by kernel_rfl) rfl #[.agg #[.int .i64 x0,.int .i64 x1,.slice AP x2.length cP,.slice AQ x3.length cQ],.int .i64 1] rfl (by (try simp only [mT,mC,mN]);first | done | rfl | (simp only [lD,lT];rfl)) ?_;(with_reducible refine (laws_markDrawing.calls _ (fun k_ => N1 ≤ k_ ∧ k_ < N2) x0 x1 _ x2 _ x3 1 t11 w _ ib (rO XP.out) (sO XQ.out) A11.out).mono ?_);rintro e w5 ⟨rfl,hb,hk⟩;refine ⟨_,rfl,?_⟩;have G0n_:=Aside0.mk (Kd.R_step (rO G0.out) (fun k_ h1_ hlt => hk.2 k_ hlt (fun h2_ => Nat.not_lt.2 h2_.1 h1_)));have G1n_:=Aside0.mk (Kd.R_step (rO G1.out) (fun k_ h1_ hlt => hk.2 k_ hlt (fun h2_ => Nat.not_lt.2 h1_ h2_.2)));have BBn_:=Aside0.mk ((hk.2 gB (blk_lt BB.out) (fun h2_ => Nat.not_lt.2 h2_.1 GBN.out)).trans BB.out);have HBn_:=Aside0.mk hb;clear HB XP XQ BX hx0 hx1 hx2 hx3;have HB:=HBn_;clear HBn_ hk hb;clear G0;have G0:=G0n_;clear G0n_;clear G1;have G1:=G1n_;clear G1n_;clear BB;have BB:=BBn_;clear BBn_;clear A11;(try clear hb0 hb1 hb2 hb3);have hb0 : w5.cell? ⟨gB,0,none⟩ = some (.int .i64 a0_0):=(blk_cell BB.out 0).trans rfl;have hb1 : w5.cell? ⟨gB,1,none⟩ = some (.int .i64 a0_1):=(blk_cell BB.out 1).trans rfl;have hb2 : w5.cell? ⟨gB,2,none⟩ = some (.slice A0_2 l0_2.length c0_2):=(blk_cell BB.out 2).trans rfl;have hb3 : w5.cell? ⟨gB,3,none⟩ = some (.slice A0_3 l0_3.length c0_3):=(blk_cell BB.out 3).trans rfl) | (go_at_call 19;(with_reducible refine (laws_eqPointS.calls _ _ _ g0 _ _ s0 true _ (cO ((Kd.R_reads' G1.out).2.2)) (Kd.R_reads' G1.out).2.1 (cO ((Kd.R_reads' G0.out).2.2)) (Kd.R_reads' G0.out).2.1 A13.out).mono ?_);rintro e w5 ⟨rfl,hb⟩;have BBn_:=Aside0.mk (blk_below (by repeat (first | exact BB.out | refine blk_drewN ?_ _ | refine blk_drew ?_)) hb);have G0n_:=Aside0.mk (Kd.R_below (rO G0.out) hb);have G1n_:=Aside0.mk (Kd.R_below (rO G1.out) hb);have HBn_:=sb hb;clear HB;have HB:=HBn_;clear HBn_;clear BB;have BB:=BBn_;clear BBn_;clear G0;have G0:=G0n_;clear G0n_;clear G1;have G1:=G1n_;clear G1n_;clear A13;(try clear hb0 hb1 hb2 hb3);have hb0 : w5.cell? ⟨gB,0,none⟩ = some (.int .i64 a0_0):=(blk_cell BB.out 0).trans rfl;have hb1 : w5.cell? ⟨gB,1,none⟩ = some (.int .i64 a0_1):=(blk_cell BB.out 1).trans rfl;have hb2 : w5.cell? ⟨gB,2,none⟩ = some (.slice A0_2 l0_2.length c0_2):=(blk_cell BB.out 2).trans rfl;have hb3 : w5.cell? ⟨gB,3,none⟩ = some (.slice A0_3 l0_3.length c0_3):=(blk_cell BB.out 3).trans rfl;clear hb) | ((with_reducible refine gate_callee (f:=23) rfl ?_);refine goesL_ _ rfl rfl Try.func23 (by kernel_rfl) rfl #[.slice AI g0.length cI,.int .i64 1] rfl (by (try simp only [mT,mC,mN]);first | done | rfl | (simp only [lD,lT];rfl)) ?_;(with_reducible refine (laws_markPointS.calls _ (fun k_ => N2 ≤ k_) _ g0 1 t21 y2 w _ ib (rO G1.out) A14.out).mono ?_);rintro e w5 ⟨rfl,ho,hb,hk⟩;refine ⟨_,rfl,?_⟩;have G0n_:=Aside0.mk (Kd.R_step (rO G0.out) (fun k_ h1_ hlt => hk.2 k_ hlt (fun h2_ => Nat.not_lt.2 (Nat.le_trans B12.out h2_) h1_)));have BBn_:=Aside0.mk ((hk.2 gB (blk_lt BB.out) (fun h2_ => Nat.not_lt.2 (Nat.le_trans B12.out h2_) GBN.out)).trans BB.out);have HBn_:=Aside0.mk hb;have G2:=Aside0.mk (Kd.R_mono (ok':=fun _ => True) ho (fun _ _ => trivial));clear HB G1;have HB:=HBn_;clear HBn_ hk ho hb;clear G0;have G0:=G0n_;clear G0n_;clear BB;have BB:=BBn_;clear BBn_;clear A14;(try clear hb0 hb1 hb2 hb3);have hb0 : w5.cell? ⟨gB,0,none⟩ = some (.int .i64 a0_0):=(blk_cell BB.out 0).trans rfl;have hb1 : w5.cell? ⟨gB,1,none⟩ = some (.int .i64 a0_1):=(blk_cell BB.out 1).trans rfl;have hb2 : w5.cell? ⟨gB,2,none⟩ = some (.slice A0_2 l0_2.length c0_2):=(blk_cell BB.out 2).trans rfl;have hb3 : w5.cell? ⟨gB,3,none⟩ = some (.slice A0_3 l0_3.length c0_3):=(blk_cell BB.out 3).trans rfl;have eL_ : y2.length = g0.length:=(Kd.R_reads' G2.out).1.symm;have G2n_:=Aside0.mk (show Kd.R k73 73 w5 w.heap.size (fun _ => True) (.slice AI y2.length cI) y2 by (rw [eL_];exact G2.out));clear G2;have G2:=G2n_;clear G2n_;rw [← eL_];clear eL_) | ((with_reducible refine gate_callee (f:=35) rfl ?_);refine goesL_ _ rfl rfl Try.func35 (by kernel_rfl) rfl #[.slice AI y2.length cI,.int .i64 1] rfl (by (try simp only [mT,mC,mN]);first | done | rfl | (simp only [lD,lT];rfl)) ?_;(with_reducible refine (laws_heldPointS.calls _ _ _ y2 1 t21 _ (cO ((Kd.R_reads' G2.out).2.2)) (Kd.R_reads' G2.out).2.1 A16.out).mono ?_);rintro e w5 ⟨rfl,⟨nd,rfl⟩⟩;refine ⟨_,rfl,?_⟩;clear A16) | ((with_reducible refine gate_callee (f:=38) rfl ?_);refine goesL_ _ rfl rfl Try.func38 (by kernel_rfl) rfl #[.agg #[.int .i64 a0_0,.int .i64 a0_1,.slice A0_2 l0_2.length c0_2,.slice A0_3 l0_3.length c0_3]] rfl (by (try simp only [mT,mC,mN]);first | done | rfl | (simp only [lD,lT];rfl)) ?_;(with_reducible refine (laws_toDrawing.calls _ a0_0 a0_1 _ _ l0_2 _ _ l0_3 z0 z1 z2 z3 _ (cO ((Kd.C_below HR0_2.out ib))) HC0_2.out (cO ((Kd.C_below HR0_3.out ib))) HC0_3.out A17.out).mono ?_);rintro e w5 ⟨vp_,vf_,rfl,ho,hs,hb⟩;refine ⟨_,rfl,?_⟩;have BBn_:=Aside0.mk (blk_below (by repeat (first | exact BB.out | refine blk_drewN ?_ _ | refine blk_drew ?_)) hb);have G0n_:=Aside0.mk (Kd.R_below (rO G0.out) hb);have G2n_:=Aside0.mk (Kd.R_below (rO G2.out) hb);have XT:=Aside0.mk ho;have XF:=Aside0.mk hs;have HBn_:=sb hb;clear HB;have HB:=HBn_;clear HBn_;clear BB;have BB:=BBn_;clear BBn_;clear G0;have G0:=G0n_;clear G0n_;clear G2;have G2:=G2n_;clear G2n_;clear A17;obtain ⟨AT,cT,eT_⟩:=Kd.R_slice XT.out;subst eT_;obtain ⟨AF,cF,eF_⟩:=Kd.S_slice XF.out;subst eF_;(try clear hb0 hb1 hb2 hb3);have hb0 : w5.cell? ⟨gB,0,none⟩ = some (.int .i64 a0_0):=(blk_cell BB.out 0).trans rfl;have hb1 : w5.cell? ⟨gB,1,none⟩ = some (.int .i64 a0_1):=(blk_cell BB.out 1).trans rfl;have hb2 : w5.cell? ⟨gB,2,none⟩ = some (.slice A0_2 l0_2.length c0_2):=(blk_cell BB.out 2).trans rfl;have hb3 : w5.cell? ⟨gB,3,none⟩ = some (.slice A0_3 l0_3.length c0_3):=(blk_cell BB.out 3).trans rfl;clear hb) | ((with_reducible refine gate_callee (f:=52) rfl ?_);refine goesL_ _ rfl rfl Try.func52 (by kernel_rfl) rfl #[.agg #[.int .i64 z0,.int .i64 z1,.slice AT z2.length cT,.slice AF z3.length cF],.int .i64 a1] rfl (by (try simp only [mT,mC,mN]);first | done | rfl | (simp only [lD,lT];rfl)) ?_;(with_reducible refine (impl_FacePolygon.calls _ z0 z1 _ _ z2 _ _ z3 a1 u0 u1 _ (cO ((Kd.R_reads' XT.out).2.2)) (Kd.R_reads' XT.out).2.1 (cO ((Kd.S_reads' XF.out).2.2)) (Kd.S_reads' XF.out).2.1 A18.out).mono ?_);rintro e w5 ⟨v0_,rfl,ho,hb⟩;refine ⟨_,rfl,?_⟩;have BBn_:=Aside0.mk (blk_below (by repeat (first | exact BB.out | refine blk_drewN ?_ _ | refine blk_drew ?_)) hb);have G0n_:=Aside0.mk (Kd.R_below (rO G0.out) hb);have G2n_:=Aside0.mk (Kd.R_below (rO G2.out) hb);have G3:=Aside0.mk ho;have HBn_:=sb hb;clear HB;have HB:=HBn_;clear HBn_;clear BB;have BB:=BBn_;clear BBn_;clear G0;have G0:=G0n_;clear G0n_;clear G2;have G2:=G2n_;clear G2n_;clear A18 XT XF;obtain ⟨AH,cH,eH_⟩:=Kd.R_slice G3.out;subst eH_;(try clear hb0 hb1 hb2 hb3);have hb0 : w5.cell? ⟨gB,0,none⟩ = some (.int .i64 a0_0):=(blk_cell BB.out 0).trans rfl;have hb1 : w5.cell? ⟨gB,1,none⟩ = some (.int .i64 a0_1):=(blk_cell BB.out 1).trans rfl;have hb2 : w5.cell? ⟨gB,2,none⟩ = some (.slice A0_2 l0_2.length c0_2):=(blk_cell BB.out 2).trans rfl;have hb3 : w5.cell? ⟨gB,3,none⟩ = some (.slice A0_3 l0_3.length c0_3):=(blk_cell BB.out 3).trans rfl;clear hb) | ((with_reducible refine gate_callee (f:=19) rfl ?_);refine goesL_ _ rfl rfl Try.func19 (by kernel_rfl) rfl #[.slice AH u0.length cH,.slice AG s0.length cG] rfl (by (try simp only [mT,mC,mN]);first | done | rfl | (simp only [lD,lT];rfl)) ?_;(with_reducible refine (laws_eqPointS.calls _ _ _ u0 _ _ s0 true _ (cO ((Kd.R_reads' G3.out).2.2)) (Kd.R_reads' G3.out).2.1 (cO ((Kd.R_reads' G0.out).2.2)) (Kd.R_reads' G0.out).2.1 A20.out).mono ?_);rintro e w5 ⟨rfl,hb⟩;refine ⟨_,rfl,?_⟩;have BBn_:=Aside0.mk (blk_below (by repeat (first | exact BB.out | refine blk_drewN ?_ _ | refine blk_drew ?_)) hb);have G0n_:=Aside0.mk (Kd.R_below (rO G0.out) hb);have G2n_:=Aside0.mk (Kd.R_below (rO G2.out) hb);have G3n_:=Aside0.mk (Kd.R_below (rO G3.out) hb);have HBn_:=sb hb;clear HB;have HB:=HBn_;clear HBn_;clear BB;have BB:=BBn_;clear BBn_;clear G0;have G0:=G0n_;clear G0n_;clear G2;have G2:=G2n_;clear G2n_;clear G3;have G3:=G3n_;clear G3n_;clear A20;(try clear hb0 hb1 hb2 hb3);have hb0 : w5.cell? ⟨gB,0,none⟩ = some (.int .i64 a0_0):=(blk_cell BB.out 0).trans rfl;have hb1 : w5.cell? ⟨gB,1,none⟩ = some (.int .i64 a0_1):=(blk_cell BB.out 1).trans rfl;have hb2 : w5.cell? ⟨gB,2,none⟩ = some (.slice A0_2 l0_2.length c0_2):=(blk_cell BB.out 2).trans rfl;have hb3 : w5.cell? ⟨gB,3,none⟩ = some (.slice A0_3 l0_3.length c0_3):=(blk_cell BB.out 3).trans rfl;clear hb) | ((with_reducible refine gate_callee (f:=35) rfl ?_);refine goesL_ _ rfl rfl Try.func35 (by kernel_rfl) rfl #[.slice AI y2.length cI,.int .i64 1] rfl (by (try simp only [mT,mC,mN]);first | done | rfl | (simp only [lD,lT];rfl)) ?_;(with_reducible refine (laws_heldPointS.calls _ _ _ y2 1 t21 _ (cO ((Kd.R_reads' G2.out).2.2)) (Kd.R_reads' G2.out).2.1 A21.out).mono ?_);rintro e w5 ⟨rfl,⟨nd,rfl⟩⟩;refine ⟨_,rfl,?_⟩;clear A21))
  go_ret
  exact ⟨(by first | rfl | (simp;done) | (simp [*];done)),ib⟩
end Go.Proofs.Ytnnchaggdnlfmaa.PFnExactFacePolygon
